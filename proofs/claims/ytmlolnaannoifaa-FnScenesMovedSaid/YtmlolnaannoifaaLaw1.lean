/- The law in plain words of those functions. -/
import Derived.Test.YtmlolnaannoifaaEv3
import Derived.Test.YtmlolnaannoifaaFn1
import Derived.Test.YtmlolnaannoifaaFn2
set_option linter.all false
set_option linter.unusedVariables false
set_option linter.unusedSimpArgs false

/- Numbers and lists, for the laws. -/
namespace Go.Proofs.Ytmlolnaannoifaa

/-- A loop's end, whatever it was told of its head. -/
def HL {ρ K : Type} (k : K) (d : ρ) (body : K → VT (K ⊕ ρ)) (P : ρ → Prop) : Prop := VT.H (.loop k (fun _ q => q) (fun _ h => h) d body) P
theorem HL_iff {ρ K : Type} {k : K} {E : K → Prop → Prop} {hE : ∀ q : Prop, q → E k q} {d : ρ} {body : K → VT (K ⊕ ρ)} {P : ρ → Prop} : VT.H (.loop k E hE d body) P ↔ HL k d body P := Iff.rfl
theorem HL_in {ρ K : Type} {k : K} {d : ρ} {body : K → VT (K ⊕ ρ)} {P : ρ → Prop} (Inv : K → Prop) (μ : K → Nat) (h0 : Inv k)
    (hb : ∀ k, Inv k → VT.H (body k) fun r => match r with
      | .inl k' => Inv k' ∧ μ k' < μ k
      | .inr w => P w) : HL k d body P := VT.H_loop Inv μ h0 hb

theorem wrap_i64 {n : Int} (h1 : -9223372036854775808 ≤ n) (h2 : n ≤ 9223372036854775807) : IntKind.wrap .i64 n = n := by
  have e1 : (2 : Int) ^ IntKind.i64.bits = 18446744073709551616 := by decide
  have e2 : (2 : Int) ^ (IntKind.i64.bits - 1) = 9223372036854775808 := by decide
  unfold IntKind.wrap
  simp only [e1, e2]
  have : IntKind.i64.signed = true := by decide
  simp only [this, Bool.true_and, decide_eq_true_eq]
  split <;> omega

theorem and_255 (x : Int) : 0 ≤ ibits .and .u64 x 255 ∧ ibits .and .u64 x 255 ≤ 255 := by
  have e1 : (2 : Int) ^ IntKind.u64.bits = 18446744073709551616 := by decide
  have hs : IntKind.u64.signed = false := by decide
  unfold ibits IntKind.wrap
  simp only [e1, hs, Bool.false_and]
  have h : (BitVec.ofInt IntKind.u64.bits x &&& BitVec.ofInt IntKind.u64.bits 255).toNat ≤ 255 := by
    rw [BitVec.toNat_and]
    have : (BitVec.ofInt IntKind.u64.bits 255).toNat = 255 := by decide
    rw [this]
    exact Nat.and_le_right
  generalize (BitVec.ofInt IntKind.u64.bits x &&& BitVec.ofInt IntKind.u64.bits 255).toNat = m at h
  simp
  omega

theorem getD_mem {α : Type} {l : List α} {i : Nat} {d : α} (h : i < l.length) : l.getD i d ∈ l := by
  simp [List.getD, h]

theorem tmod_range {a n : Int} (ha : 0 ≤ a) (hn : 0 < n) : 0 ≤ Int.tmod a n ∧ Int.tmod a n < n := by
  rw [Int.tmod_eq_emod_of_nonneg ha]
  exact ⟨Int.emod_nonneg _ (by omega), Int.emod_lt_of_pos _ hn⟩
end Go.Proofs.Ytmlolnaannoifaa

/- The law's parts as plain functions: the source of draws. -/
namespace Go.Proofs.Ytmlolnaannoifaa

abbrev SrcD := List Int × Int × Int × Unit
def SrcOK (B : Int) (s : SrcD) : Prop := (∀ n ∈ s.1, 0 ≤ n ∧ n ≤ 255) ∧ 0 ≤ s.2.1 ∧ s.2.1 ≤ B
theorem SrcOK.mono {B B' : Int} {s : SrcD} (h : SrcOK B s) (hb : B ≤ B') : SrcOK B' s := ⟨h.1, h.2.1, Int.le_trans h.2.2 hb⟩

theorem h78 (s : SrcD) (B : Int) (hs : SrcOK B s) (hB : B < 4611686018427387904) : (∀ p ∈ pp78 (s, ()), p) ∧ (0 ≤ (ff78 (s, ())).1.1 ∧ (ff78 (s, ())).1.1 ≤ 255 ∧ SrcOK (B + 1) (ff78 (s, ())).2.1) := by
  refine VT.H_in (P := fun r : W78 => 0 ≤ r.1.1 ∧ r.1.1 ≤ 255 ∧ SrcOK (B + 1) r.2.1) ?_
  obtain ⟨code, at_, seed, u⟩ := s
  obtain ⟨h1, h2, h3⟩ := hs
  simp only at h1 h2 h3
  have hat : IntKind.wrap .i64 (at_ + 1) = at_ + 1 := wrap_i64 (by omega) (by omega)
  have hand := fun x => and_255 x
  have hw : ∀ x, IntKind.wrap .i64 (ibits .and .u64 x 255) = ibits .and .u64 x 255 := fun x => wrap_i64 (by have := hand x; omega) (by have := hand x; omega)
  unfold tr78
  simp only [VT.H_ite_iff, VT.H_step_iff, VT.H_ret_iff, decide_eq_true_eq, hat, hw]
  have hok : SrcOK (B + 1) (code, at_ + 1, 0, ()) := ⟨h1, by simp only; omega, by simp only; omega⟩
  split
  · rename_i hlt
    have hb := h1 _ (getD_mem (l := code) (i := at_.toNat) (d := 0) (by omega))
    refine ⟨h2, hlt, ?_⟩
    have hwb : IntKind.wrap .i64 (code.getD at_.toNat 0) = code.getD at_.toNat 0 := wrap_i64 (by omega) (by omega)
    split
    · exact ⟨by rw [hwb]; exact hb.1, by rw [hwb]; exact hb.2, hok⟩
    · exact ⟨by decide, (hand _).1, (hand _).2, hok⟩
  · split
    · exact ⟨by decide, by decide, hok⟩
    · exact ⟨by decide, (hand _).1, (hand _).2, hok⟩

theorem h46 (s : SrcD) (n B : Int) (hs : SrcOK B s) (hB : B < 4611686018427387000) (hn : n ≤ 1000000000) : (∀ p ∈ pp46 (s, n, ()), p) ∧ (0 ≤ (ff46 (s, n, ())).1.1 ∧ ((ff46 (s, n, ())).1.1 < n ∨ n ≤ 1 ∧ (ff46 (s, n, ())).1.1 = 0) ∧ SrcOK (B + 2) (ff46 (s, n, ())).2.1) := by
  refine VT.H_in (P := fun r : W46 => 0 ≤ r.1.1 ∧ (r.1.1 < n ∨ n ≤ 1 ∧ r.1.1 = 0) ∧ SrcOK (B + 2) r.2.1) ?_
  obtain ⟨code, at_, seed, u⟩ := s
  unfold tr46
  simp only [VT.H_ite_iff, VT.H_step_iff, VT.H_ret_iff, VT.H_pre_iff, decide_eq_true_eq]
  obtain ⟨q1, q2, q3, q4⟩ := h78 (code, at_, seed, ()) B hs (by omega)
  generalize ff78 ((code, at_, seed, ()), ()) = r at q2 q3 q4
  split
  · exact ⟨by decide, .inr ⟨by assumption, trivial⟩, hs.mono (by omega)⟩
  · rename_i hn1
    refine ⟨q1, ?_⟩
    split
    · obtain ⟨q5, q6, q7, q8⟩ := h78 r.2.1 (B + 1) q4 (by omega)
      refine ⟨q5, by omega, ?_⟩
      change _ ∧ _ ∧ SrcOK _ (ff78 (r.2.1, ())).2.1
      have e1 : IntKind.wrap .i64 (r.1.1 * 256) = r.1.1 * 256 := wrap_i64 (by omega) (by omega)
      rw [e1]
      have e2 : IntKind.wrap .i64 (r.1.1 * 256 + (ff78 (r.2.1, ())).1.1) = r.1.1 * 256 + (ff78 (r.2.1, ())).1.1 := wrap_i64 (by omega) (by omega)
      change 0 ≤ Int.tmod (IntKind.wrap .i64 (r.1.1 * 256 + (ff78 (r.2.1, ())).1.1)) n ∧ _ ∧ _
      have := tmod_range (a := r.1.1 * 256 + (ff78 (r.2.1, ())).1.1) (n := n) (by omega) (by omega)
      rw [e2]
      exact ⟨this.1, .inl this.2, q8.mono (by omega)⟩
    · have := tmod_range (a := r.1.1) (n := n) q2 (by omega)
      exact ⟨by omega, this.1, .inl this.2, q4.mono (by omega)⟩

theorem h111 (s : SrcD) (n B : Int) (hs : SrcOK B s) (hB : B < 4611686018427387000) (hn : n ≤ 1000000000) : (∀ p ∈ pp111 (s, n, ()), p) ∧ SrcOK (B + 2) (ff111 (s, n, ())).2.1 := by
  refine VT.H_in (P := fun r : W111 => SrcOK (B + 2) r.2.1) ?_
  obtain ⟨q1, q2, q3, q4⟩ := h46 s n B hs hB hn
  unfold tr111
  simp only [VT.H_step_iff, VT.H_ret_iff, VT.H_pre_iff]
  exact ⟨q1, q4⟩

/-- A number of quarters, as drawn. -/
def quarter (i : Int) : Nat := fop .quo .f32 (FloatKind.nearest .f32 i) 1082130432
def Small (x : Nat) : Prop := ∃ i : Int, -16 ≤ i ∧ i ≤ 16 ∧ x = quarter i

theorem h29 (s : SrcD) (B : Int) (hs : SrcOK B s) (hB : B < 4611686018427387000) : (∀ p ∈ pp29 (s, ()), p) ∧ Small (ff29 (s, ())).1.1 ∧ SrcOK (B + 2) (ff29 (s, ())).2.1 := by
  refine VT.H_in (P := fun r : W29 => Small r.1.1 ∧ SrcOK (B + 2) r.2.1) ?_
  obtain ⟨q1, q2, q3, q4⟩ := h46 s 33 B hs hB (by decide)
  unfold tr29
  simp only [VT.H_step_iff, VT.H_ret_iff, VT.H_pre_iff]
  refine ⟨q1, ?_, q4⟩
  have e : IntKind.wrap .i64 ((ff46 (s, 33, ())).1.1 - 16) = (ff46 (s, 33, ())).1.1 - 16 := wrap_i64 (by omega) (by omega)
  exact ⟨(ff46 (s, 33, ())).1.1 - 16, by omega, by omega, congrArg quarter e⟩

theorem h99 (s : SrcD) (l : List ByteArray) (B : Int) (hs : SrcOK B s) (hB : B < 4611686018427387000) (hl : l.length ≤ 1000000000) (h0 : 0 < l.length) : (∀ p ∈ pp99 (s, l, ()), p) ∧ (ff99 (s, l, ())).1.1 ∈ l ∧ SrcOK (B + 2) (ff99 (s, l, ())).2.1 := by
  refine VT.H_in (P := fun r : W99 => r.1.1 ∈ l ∧ SrcOK (B + 2) r.2.1) ?_
  obtain ⟨q1, q2, q3, q4⟩ := h46 s l.length B hs hB (by omega)
  unfold tr99
  simp only [VT.H_step_iff, VT.H_ret_iff, VT.H_pre_iff]
  change _ ∧ 0 ≤ (ff46 (s, l.length, ())).1.1 ∧ (ff46 (s, l.length, ())).1.1 < l.length ∧ l.getD (ff46 (s, l.length, ())).1.1.toNat ByteArray.empty ∈ l ∧ _
  have h : (ff46 (s, l.length, ())).1.1 < l.length := by omega
  exact ⟨q1, q2, h, getD_mem (by omega), q4⟩

theorem h27 (a : List Int) : (∀ p ∈ pp27 (a, ()), p) ∧ ff27 (a, ()) = (((a, 0, 0, ()), ()), ()) :=
  VT.H_in (P := fun r : W27 => r = (((a, 0, 0, ()), ()), ())) (VT.H_ret rfl)

theorem src_start {a : List Int} (h : ∀ n ∈ a, 0 ≤ n ∧ n ≤ 255) : SrcOK 0 (a, 0, 0, ()) := ⟨h, Int.le_refl 0, Int.le_refl 0⟩

abbrev VecD := Nat × Nat × Nat × Unit
def SmallV (v : VecD) : Prop := Small v.1 ∧ Small v.2.1 ∧ Small v.2.2.1

theorem h9 (a : List Int) (ha : ∀ n ∈ a, 0 ≤ n ∧ n ≤ 255) : (∀ p ∈ pp9 (a, ()), p) ∧ SmallV (ff9 (a, ())).1.1 := by
  refine VT.H_in (P := fun r : W9 => SmallV r.1.1) ?_
  obtain ⟨p1, p2⟩ := h27 a
  unfold tr9
  simp only [VT.H_step_iff, VT.H_ret_iff, VT.H_pre_iff, p2]
  obtain ⟨q1, q2, q3⟩ := h29 (a, 0, 0, ()) 0 (src_start ha) (by decide)
  obtain ⟨r1, r2, r3⟩ := h29 _ _ q3 (by decide)
  obtain ⟨s1, s2, s3⟩ := h29 _ _ r3 (by decide)
  exact ⟨p1, q1, r1, s1, q2, r2, s2⟩

theorem h6 (a b : List Int) : (∀ p ∈ pp6 (a, b, ()), p) ∧ ff6 (a, b, ()) = ((decide (48 < a.length ∨ 48 < b.length), ()), ()) := by
  refine VT.H_in (P := fun r : W6 => r = ((decide (48 < a.length ∨ 48 < b.length), ()), ())) ?_
  unfold tr6
  simp only [VT.H_ite_iff, VT.H_ret_iff, decide_eq_true_eq]
  split
  · rename_i h
    have : 48 < a.length := by omega
    simp [this]
  · rename_i h
    have : ¬ 48 < a.length := by omega
    simp [this]
    omega

theorem h8 (a : List Int) (k n : Int) (ha : ∀ x ∈ a, 0 ≤ x ∧ x ≤ 255) (hk : 0 ≤ k) : (∀ p ∈ pp8 (a, k, n, ()), p) ∧ (0 ≤ (ff8 (a, k, n, ())).1.1 ∧ ((ff8 (a, k, n, ())).1.1 < n ∨ (ff8 (a, k, n, ())).1.1 = 0)) := by
  refine VT.H_in (P := fun r : W8 => 0 ≤ r.1.1 ∧ (r.1.1 < n ∨ r.1.1 = 0)) ?_
  unfold tr8
  simp only [VT.H_ite_iff, VT.H_ret_iff, VT.H_step_iff, decide_eq_true_eq]
  split
  · exact ⟨by decide, .inr trivial⟩
  · split
    · exact ⟨by decide, .inr trivial⟩
    · have hb := ha _ (getD_mem (l := a) (i := k.toNat) (d := 0) (by omega))
      have e : IntKind.wrap .i64 (a.getD k.toNat 0) = a.getD k.toNat 0 := wrap_i64 (by omega) (by omega)
      have := tmod_range (a := IntKind.wrap .i64 (a.getD k.toNat 0)) (n := n) (by rw [e]; omega) (by omega)
      exact ⟨by omega, by omega, by omega, this.1, .inl this.2⟩
end Go.Proofs.Ytmlolnaannoifaa

/- Rules, numbers and validity of shapes. -/
namespace Go.Proofs.Ytmlolnaannoifaa

abbrev RuleD := Int × Int × Bool × Int × Unit
def ruleT (k : Int) : RuleD :=
  if k = 0 then (1, 0, false, 1, ()) else if k = 1 then (3, 0, false, 1, ()) else if k = 2 then (2, 0, false, 1, ()) else if k = 3 then (2, 0, false, 1, ())
  else if k = 4 then (4, 0, false, 0, ()) else if k = 5 then (0, 2, false, 0, ()) else if k = 6 then (0, 2, false, 0, ()) else if k = 7 then (0, 2, false, 0, ())
  else if k = 8 then (1, 2, false, 2, ()) else if k = 9 then (3, 1, false, 0, ()) else if k = 10 then (1, 1, false, 2, ()) else if k = 11 then (3, 1, false, 2, ())
  else if k = 12 then (1, 1, true, 0, ()) else if k = 13 then (0, 1, true, 0, ()) else if k = 14 then (1, 1, true, 2, ()) else if k = 15 then (1, 1, false, 0, ())
  else if k = 16 then (1, 1, false, 1, ()) else (0, 0, false, 0, ())
def ruleB (k : Int) : Bool := decide (0 ≤ k ∧ k ≤ 16)

theorem h61 (k : Int) : (∀ p ∈ pp61 (k, ()), p) ∧ ff61 (k, ()) = ((ruleT k, ruleB k, ()), ()) := by
  refine VT.H_in (P := fun r : W61 => r = ((ruleT k, ruleB k, ()), ())) ?_
  by_cases h0 : k = 0
  · subst h0; exact ⟨trivial, rfl⟩
  by_cases h1 : k = 1
  · subst h1; exact ⟨trivial, rfl⟩
  by_cases h2 : k = 2
  · subst h2; exact ⟨trivial, rfl⟩
  by_cases h3 : k = 3
  · subst h3; exact ⟨trivial, rfl⟩
  by_cases h4 : k = 4
  · subst h4; exact ⟨trivial, rfl⟩
  by_cases h5 : k = 5
  · subst h5; exact ⟨trivial, rfl⟩
  by_cases h6 : k = 6
  · subst h6; exact ⟨trivial, rfl⟩
  by_cases h7 : k = 7
  · subst h7; exact ⟨trivial, rfl⟩
  by_cases h8 : k = 8
  · subst h8; exact ⟨trivial, rfl⟩
  by_cases h9 : k = 9
  · subst h9; exact ⟨trivial, rfl⟩
  by_cases h10 : k = 10
  · subst h10; exact ⟨trivial, rfl⟩
  by_cases h11 : k = 11
  · subst h11; exact ⟨trivial, rfl⟩
  by_cases h12 : k = 12
  · subst h12; exact ⟨trivial, rfl⟩
  by_cases h13 : k = 13
  · subst h13; exact ⟨trivial, rfl⟩
  by_cases h14 : k = 14
  · subst h14; exact ⟨trivial, rfl⟩
  by_cases h15 : k = 15
  · subst h15; exact ⟨trivial, rfl⟩
  by_cases h16 : k = 16
  · subst h16; exact ⟨trivial, rfl⟩
  have e1 : ruleT k = (0, 0, false, 0, ()) := by simp [ruleT, h0, h1, h2, h3, h4, h5, h6, h7, h8, h9, h10, h11, h12, h13, h14, h15, h16]
  have e2 : ruleB k = false := by simp [ruleB]; omega
  unfold tr61
  simp [h0, h1, h2, h3, h4, h5, h6, h7, h8, h9, h10, h11, h12, h13, h14, h15, h16, e1, e2]

theorem h43 (n lo hi : Int) : (∀ p ∈ pp43 (n, lo, hi, ()), p) ∧ ff43 (n, lo, hi, ()) = ((decide (lo ≤ n ∧ n ≤ hi), ()), ()) := by
  refine VT.H_in (P := fun r : W43 => r = ((decide (lo ≤ n ∧ n ≤ hi), ()), ())) ?_
  unfold tr43
  simp only [VT.H_ite_iff, VT.H_ret_iff, decide_eq_true_eq]
  split
  · rename_i h; simp [h]
  · rename_i h; simp [h]

def fin (x : Nat) : Bool := feq .f32 (fop .sub .f32 x x) 0
theorem h138 (x : Nat) : (∀ p ∈ pp138 (x, ()), p) ∧ ff138 (x, ()) = ((fin x, ()), ()) := VT.H_in (P := fun r : W138 => r = ((fin x, ()), ())) (VT.H_ret rfl)
theorem h137 (x : Nat) : (∀ p ∈ pp137 (x, ()), p) ∧ ff137 (x, ()) = ((!fin x, ()), ()) := by
  refine VT.H_in (P := fun r : W137 => r = ((!fin x, ()), ())) ?_
  unfold tr137
  simp only [VT.H_pre_iff, VT.H_ret_iff, (h138 x).2]
  exact ⟨(h138 x).1, trivial⟩

theorem take_succ' {α : Type} {l : List α} {i : Nat} (h : i < l.length) (d : α) : l.take (i + 1) = l.take i ++ [l.getD i d] := by
  rw [List.take_add_one, List.getElem?_eq_getElem h]
  simp [List.getD, h]

theorem any_take_succ {α : Type} {l : List α} {i : Nat} (h : i < l.length) (d : α) (f : α → Bool) : (l.take (i + 1)).any f = ((l.take i).any f || f (l.getD i d)) := by
  rw [take_succ' h d]; simp

/-- The first place where a test holds. -/
theorem h139 (l : List Nat) (f : Nat → Bool) (hl : l.length ≤ 1000000000000) : (∀ p ∈ pp139 (l, f, ()), p) ∧ ((0 ≤ (ff139 (l, f, ())).1.1) ↔ l.any f = true) := by
  refine VT.H_in (P := fun r : W139 => 0 ≤ r.1.1 ↔ l.any f = true) ?_
  unfold tr139
  refine VT.H_loop (fun k : K139_r2 => k.1 = l.length ∧ 0 ≤ k.2.1 ∧ k.2.1 ≤ l.length ∧ (l.take k.2.1.toNat).any f = false) (fun k => (l.length - k.2.1).toNat) ⟨rfl, by simp, by simp, by simp⟩ ?_
  rintro ⟨n, i, u⟩ ⟨h1, h2, h3, h4⟩
  simp only at h1 h2 h3 h4
  subst h1
  unfold lp139_1
  simp only [VT.H_ite_iff, HL_iff, VT.H_step_iff, VT.H_exit_iff, VT.H_ret_iff, VT.H_next_iff, decide_eq_true_eq]
  split
  · rename_i hi
    have hi' : i.toNat < l.length := by omega
    refine ⟨h2, hi, ?_⟩
    split
    · rename_i hf
      exact ⟨fun _ => List.any_eq_true.2 ⟨_, getD_mem hi', hf⟩, fun _ => h2⟩
    · rename_i hf
      rw [wrap_i64 (by omega) (by omega)]
      refine ⟨⟨trivial, by omega, by omega, ?_⟩, by omega⟩
      rw [show (i + 1).toNat = i.toNat + 1 by omega, any_take_succ hi' 0, h4]
      simpa using hf
  · have : i.toNat = l.length := by omega
    rw [this, List.take_length] at h4
    simp [h4]

theorem h107 (l : List Int) (f : Int → Bool) (hl : l.length ≤ 1000000000000) : (∀ p ∈ pp107 (l, f, ()), p) ∧ ((0 ≤ (ff107 (l, f, ())).1.1) ↔ l.any f = true) := by
  refine VT.H_in (P := fun r : W107 => 0 ≤ r.1.1 ↔ l.any f = true) ?_
  unfold tr107
  refine VT.H_loop (fun k : K107_r2 => k.1 = l.length ∧ 0 ≤ k.2.1 ∧ k.2.1 ≤ l.length ∧ (l.take k.2.1.toNat).any f = false) (fun k => (l.length - k.2.1).toNat) ⟨rfl, by simp, by simp, by simp⟩ ?_
  rintro ⟨n, i, u⟩ ⟨h1, h2, h3, h4⟩
  simp only at h1 h2 h3 h4
  subst h1
  unfold lp107_1
  simp only [VT.H_ite_iff, HL_iff, VT.H_step_iff, VT.H_exit_iff, VT.H_ret_iff, VT.H_next_iff, decide_eq_true_eq]
  split
  · rename_i hi
    have hi' : i.toNat < l.length := by omega
    refine ⟨h2, hi, ?_⟩
    split
    · rename_i hf
      exact ⟨fun _ => List.any_eq_true.2 ⟨_, getD_mem hi', hf⟩, fun _ => h2⟩
    · rename_i hf
      rw [wrap_i64 (by omega) (by omega)]
      refine ⟨⟨trivial, by omega, by omega, ?_⟩, by omega⟩
      rw [show (i + 1).toNat = i.toNat + 1 by omega, any_take_succ hi' 0, h4]
      simpa using hf
  · have : i.toNat = l.length := by omega
    rw [this, List.take_length] at h4
    simp [h4]

theorem h105 (l : List Nat) (f : Nat → Bool) (hl : l.length ≤ 1000000000000) : (∀ p ∈ pp105 (l, f, ()), p) ∧ ff105 (l, f, ()) = ((l.any f, ()), ()) := by
  refine VT.H_in (P := fun r : W105 => r = ((l.any f, ()), ())) ?_
  obtain ⟨q1, q2⟩ := h139 l f hl
  unfold tr105
  simp only [VT.H_pre_iff, VT.H_ret_iff]
  refine ⟨q1, ?_⟩
  rw [show decide (0 ≤ (ff139 (l, f, ())).1.1) = l.any f by rw [Bool.eq_iff_iff, decide_eq_true_eq]; exact q2]

theorem h71 (l : List Int) (f : Int → Bool) (hl : l.length ≤ 1000000000000) : (∀ p ∈ pp71 (l, f, ()), p) ∧ ff71 (l, f, ()) = ((l.any f, ()), ()) := by
  refine VT.H_in (P := fun r : W71 => r = ((l.any f, ()), ())) ?_
  obtain ⟨q1, q2⟩ := h107 l f hl
  unfold tr71
  simp only [VT.H_pre_iff, VT.H_ret_iff]
  refine ⟨q1, ?_⟩
  rw [show decide (0 ≤ (ff107 (l, f, ())).1.1) = l.any f by rw [Bool.eq_iff_iff, decide_eq_true_eq]; exact q2]

theorem h104 (l : List Nat) (hl : l.length ≤ 1000000000000) : (∀ p ∈ pp104 (l, ()), p) ∧ ff104 (l, ()) = ((l.all fin, ()), ()) := by
  refine VT.H_in (P := fun r : W104 => r = ((l.all fin, ()), ())) ?_
  obtain ⟨q1, q2⟩ := h105 l (fun x => (ff137 (x, ())).1.1) hl
  unfold tr104
  simp only [VT.H_pre_iff, VT.H_ret_iff, VT.H_step_iff, q2]
  refine ⟨fun x => (h137 x).1, q1, ?_⟩
  have e : (fun x => (ff137 (x, ())).1.1) = fun x => !fin x := funext fun x => by rw [(h137 x).2]
  rw [e]
  have : (!l.any fun x => !fin x) = l.all fin := by
    rw [List.all_eq_not_any_not]
  rw [this]

/-- Is a number not as a rule wants it? -/
def badS (s : Int) (x : Nat) : Bool := (decide (s = 1) && flss .f32 x 0) || (decide (s = 2) && fleq .f32 x 0)
theorem h106 (x : Nat) (r : RuleD) : (∀ p ∈ pp106 (x, r, ()), p) ∧ ff106 (x, r, ()) = ((badS r.2.2.2.1 x, ()), ()) := by
  refine VT.H_in (P := fun w : W106 => w = ((badS r.2.2.2.1 x, ()), ())) ?_
  unfold tr106 badS
  simp only [VT.H_ite_iff, VT.H_ret_iff, decide_eq_true_eq]
  by_cases h1 : r.2.2.2.1 = 1
  · by_cases h2 : r.2.2.2.1 = 2
    · omega
    · simp [h1]
  · by_cases h2 : r.2.2.2.1 = 2 <;> simp [h1, h2]

def numsOk (k : Int) (l : List Nat) : Bool := ruleB k && (decide ((l.length : Int) = (ruleT k).1) && (l.all fin && !l.any (badS (ruleT k).2.2.2.1)))
theorem h68 (k : Int) (l : List Nat) (hl : l.length ≤ 1000000000000) : (∀ p ∈ pp68 (k, l, ()), p) ∧ ff68 (k, l, ()) = ((numsOk k l, ()), ()) := by
  refine VT.H_in (P := fun w : W68 => w = ((numsOk k l, ()), ())) ?_
  obtain ⟨q1, q2⟩ := h61 k
  obtain ⟨r1, r2⟩ := h104 l hl
  obtain ⟨s1, s2⟩ := h105 l (fun x => (ff106 (x, ruleT k, ())).1.1) hl
  have e : l.any (fun x => (ff106 (x, ruleT k, ())).1.1) = l.any (badS (ruleT k).2.2.2.1) := by
    have : (fun x => (ff106 (x, ruleT k, ())).1.1) = badS (ruleT k).2.2.2.1 := funext fun x => by rw [(h106 x _).2]
    rw [this]
  unfold tr68 numsOk
  simp only [VT.H_ite_iff, VT.H_ret_iff, VT.H_pre_iff, VT.H_step_iff, q2]
  refine ⟨q1, ?_⟩
  cases hb : ruleB k with
  | false => simp
  | true =>
    simp only [Bool.not_true, Bool.false_eq_true, if_false, Bool.true_and, Bool.not_eq_true', decide_eq_false_iff_not]
    by_cases hlen : (l.length : Int) = (ruleT k).1
    · rw [if_neg (by simpa using hlen), decide_eq_true hlen, r2]
      refine ⟨r1, ?_⟩
      cases ha : l.all fin with
      | false => simp
      | true =>
        simp only [Bool.not_true, Bool.false_eq_true, if_false, Bool.true_and]
        refine ⟨fun x => (h106 x _).1, s1, ?_⟩
        rw [s2, e]
    · rw [if_pos (by simpa using hlen), decide_eq_false hlen]; simp
end Go.Proofs.Ytmlolnaannoifaa

/- Validity of shapes. -/
namespace Go.Proofs.Ytmlolnaannoifaa

abbrev NodeD := Int × Int × Int × List Nat × Unit
def kids (n : NodeD) : List Int := [n.2.1, n.2.2.1].take (ruleT n.1).2.1.toNat
theorem kind_cases {k : Int} (h : 0 ≤ k ∧ k ≤ 16) : k = 0 ∨ k = 1 ∨ k = 2 ∨ k = 3 ∨ k = 4 ∨ k = 5 ∨ k = 6 ∨ k = 7 ∨ k = 8 ∨ k = 9 ∨ k = 10 ∨ k = 11 ∨ k = 12 ∨ k = 13 ∨ k = 14 ∨ k = 15 ∨ k = 16 := by omega
theorem rule_none {k : Int} (h : ¬ (0 ≤ k ∧ k ≤ 16)) : ruleT k = (0, 0, false, 0, ()) := by
  unfold ruleT
  iterate 17 rw [if_neg (by omega)]
theorem rule_kids (k : Int) : (ruleT k).2.1 = 0 ∨ (ruleT k).2.1 = 1 ∨ (ruleT k).2.1 = 2 := by
  by_cases h : 0 ≤ k ∧ k ≤ 16
  · rcases kind_cases h with rfl | rfl | rfl | rfl | rfl | rfl | rfl | rfl | rfl | rfl | rfl | rfl | rfl | rfl | rfl | rfl | rfl <;> decide
  · rw [rule_none h]; exact .inl rfl
theorem kids_length (n : NodeD) : ((kids n).length : Int) = (ruleT n.1).2.1 := by
  unfold kids
  rcases rule_kids n.1 with h | h | h <;> simp [h]
theorem kids_le (n : NodeD) : (kids n).length ≤ 2 := by unfold kids; simp; omega

theorem h70 (n : NodeD) : (∀ p ∈ pp70 (n, ()), p) ∧ ff70 (n, ()) = ((kids n, ()), ()) := by
  refine VT.H_in (P := fun w : W70 => w = ((kids n, ()), ())) ?_
  obtain ⟨q1, q2⟩ := h61 n.1
  unfold tr70
  simp only [VT.H_ret_iff, VT.H_pre_iff, VT.H_step_iff, q2]
  refine ⟨q1, by decide, ?_, ?_, by simp [kids]⟩
  · rcases rule_kids n.1 with h | h | h <;> simp [h]
  · rcases rule_kids n.1 with h | h | h <;> simp [h]

def axOk (n : NodeD) : Bool := (decide (0 < (ruleT n.1).2.1) || decide (n.2.1 = 0)) && (decide ((ruleT n.1).2.1 = 2) || (decide (n.2.2.1 = 0) || ((ruleT n.1).2.2.1 && decide (0 ≤ n.2.2.1 ∧ n.2.2.1 ≤ 2))))
theorem h69 (n : NodeD) : (∀ p ∈ pp69 (n, ()), p) ∧ ff69 (n, ()) = ((axOk n, ()), ()) := by
  refine VT.H_in (P := fun w : W69 => w = ((axOk n, ()), ())) ?_
  obtain ⟨q1, q2⟩ := h61 n.1
  obtain ⟨r1, r2⟩ := h43 n.2.2.1 0 2
  unfold tr69 axOk
  simp only [VT.H_ret_iff, VT.H_pre_iff, VT.H_step_iff, VT.H_ite_iff, q2, r2, decide_eq_true_eq]
  refine ⟨q1, ?_⟩
  by_cases c1 : 0 < (ruleT n.1).2.1
  · by_cases c2 : (ruleT n.1).2.1 = 2
    · simp [c1, c2]
    · by_cases c3 : n.2.2.1 = 0
      · simp [c1, c2, c3]
      · cases c4 : (ruleT n.1).2.2.1 <;> simp [c1, c2, c3, c4]
        exact r1
  · by_cases c2 : n.2.1 = 0
    · by_cases c5 : (ruleT n.1).2.1 = 2
      · omega
      · by_cases c3 : n.2.2.1 = 0
        · simp [c1, c2, c3]
        · cases c4 : (ruleT n.1).2.2.1 <;> simp [c1, c2, c3, c4, c5]
          exact r1
    · simp [c1, c2]

theorem h72 (x : Int) : (∀ p ∈ pp72 (x, ()), p) ∧ ff72 (x, ()) = ((!decide (x = 1), ()), ()) := VT.H_in (P := fun w : W72 => w = ((!decide (x = 1), ()), ())) (VT.H_ret rfl)

/-- One more parent for each. -/
def bump (ps cs : List Int) : List Int := cs.foldl (fun ps c => ps.set c.toNat (ps.getD c.toNat 0 + 1)) ps
theorem bump_length (cs : List Int) : ∀ ps : List Int, (bump ps cs).length = ps.length := by
  induction cs with
  | nil => intro ps; rfl
  | cons c cs ih => intro ps; simp only [bump, List.foldl_cons]; exact (ih _).trans (by simp)
theorem bump_append (ps a b : List Int) : bump ps (a ++ b) = bump (bump ps a) b := by simp [bump]
theorem bump_getD (i : Nat) : ∀ (cs ps : List Int), (∀ c ∈ cs, 0 ≤ c ∧ c.toNat < ps.length) → (bump ps cs).getD i 0 = ps.getD i 0 + (if i < ps.length then (cs.count (i : Int) : Int) else 0)
  | [], ps, _ => by simp [bump]
  | c :: cs, ps, h => by
    obtain ⟨h1, h2⟩ := h c (by simp)
    have ih := bump_getD i cs (ps.set c.toNat (ps.getD c.toNat 0 + 1)) (fun d hd => by simpa using h d (by simp [hd]))
    simp only [bump, List.foldl_cons]
    refine ih.trans ?_
    rw [List.length_set]
    by_cases hi : i < ps.length
    · rw [if_pos hi, if_pos hi, List.count_cons]
      by_cases hc : c.toNat = i
      · subst hc
        have : (c == ((c.toNat : Nat) : Int)) = true := by simp; omega
        rw [this]
        simp [List.getD, h2]
        omega
      · have : (c == (i : Int)) = false := by simp; omega
        rw [this]
        simp [List.getD, List.getElem?_set, hc]
    · rw [if_neg hi, if_neg hi]
      have e1 : ps[i]? = none := List.getElem?_eq_none (by omega)
      have e2 : (ps.set c.toNat (ps.getD c.toNat 0 + 1))[i]? = none := List.getElem?_eq_none (by simp; omega)
      simp only [List.getD, e1]
      simp only [List.getD] at e2
      rw [e2]

def nodeOk (i : Nat) (n : NodeD) : Prop := numsOk n.1 n.2.2.2.1 = true ∧ axOk n = true ∧ ∀ c ∈ kids n, 0 ≤ c ∧ c ≤ (i : Int) - 1
def nodesOk (ns : List NodeD) : Prop := ∀ i, i < ns.length → nodeOk i (ns.getD i (0, 0, 0, [], ()))
def refs (ns : List NodeD) : List Int := ns.flatMap kids
/-- A shape as it should be. -/
structure Valid (ns : List NodeD) : Prop where
  low : 1 ≤ ns.length
  high : ns.length ≤ 16
  nodes : nodesOk ns
  root : (bump (List.replicate ns.length 0) (refs ns)).getD (ns.length - 1) 0 = 0
  once : ∀ x ∈ (bump (List.replicate ns.length 0) (refs ns)).take (ns.length - 1), x = 1

def small_nums (ns : List NodeD) : Prop := ∀ n ∈ ns, n.2.2.2.1.length ≤ 1000000000000

theorem refs_range {ns : List NodeD} {m : Nat} (hm : m ≤ ns.length) (h : ∀ i, i < m → nodeOk i (ns.getD i (0, 0, 0, [], ()))) : ∀ c ∈ refs (ns.take m), 0 ≤ c ∧ c.toNat < ns.length := by
  intro c hc
  obtain ⟨n, hn, hcn⟩ := List.mem_flatMap.1 hc
  obtain ⟨i, hi, he⟩ := List.getElem_of_mem hn
  have him : i < m := by simp at hi; omega
  have := h i him
  have e : ns.getD i (0, 0, 0, [], ()) = n := by
    rw [← he]; simp [List.getD, show i < ns.length by omega]
  rw [e] at this
  have := this.2.2 c hcn
  omega

theorem refs_length (ns : List NodeD) : (refs ns).length ≤ 2 * ns.length := by
  induction ns with
  | nil => simp [refs]
  | cons n ns ih =>
    have := kids_le n
    simp only [refs, List.flatMap_cons, List.length_append, List.length_cons] at ih ⊢
    omega

theorem bump_small {m : Nat} {cs : List Int} (h : ∀ c ∈ cs, 0 ≤ c ∧ c.toNat < m) (i : Nat) : 0 ≤ (bump (List.replicate m 0) cs).getD i 0 ∧ (bump (List.replicate m 0) cs).getD i 0 ≤ cs.length := by
  rw [bump_getD i cs _ (by simpa using h)]
  have e : (List.replicate m (0 : Int)).getD i 0 = 0 := by
    simp only [List.getD, List.getElem?_replicate]; split <;> rfl
  rw [e]
  have := List.count_le_length (a := (i : Int)) (l := cs)
  split <;> omega

theorem h36_in {d : K36_r5 ⊕ W36} {ns : List NodeD} {x : X36} {nd : NodeD} {i : Int} {b1 b2 : Bool} {ps : List Int} {P : K36_r5 ⊕ W36 → Prop} (hl : ns.length ≤ 16) (hi0 : 0 ≤ i) (hi : i < ns.length)
    (h5 : ps = bump (List.replicate ns.length 0) (refs (ns.take i.toNat))) (h6 : ∀ j, j < i.toNat → nodeOk j (ns.getD j (0, 0, 0, [], ())))
    (hbad : ∀ c ∈ kids nd, ¬ (0 ≤ c ∧ c ≤ i - 1) → P (.inr ((false, ()), ()))) (hgood : (∀ c ∈ kids nd, 0 ≤ c ∧ c ≤ i - 1) → P (.inl (ns.length, i + 1, ns.length, bump ps (kids nd), ()))) :
    HL (i, (ns.length : Int), i, nd, b1, b2, kids nd, ((kids nd).length : Int), (0 : Int), ns.length, ps, ()) d (lp36_1 pp43 ff43 pp68 ff68 pp69 ff69 pp70 ff70 pp71 ff71 pp72 ff72 x) P := by
  refine HL_in (fun k : K36_r11 => k.1 = i ∧ k.2.1 = ns.length ∧ k.2.2.1 = i ∧ k.2.2.2.2.2.2.1 = kids nd ∧ k.2.2.2.2.2.2.2.1 = (kids nd).length ∧ 0 ≤ k.2.2.2.2.2.2.2.2.1 ∧ k.2.2.2.2.2.2.2.2.1 ≤ (kids nd).length ∧ k.2.2.2.2.2.2.2.2.2.1 = ns.length ∧
      k.2.2.2.2.2.2.2.2.2.2.1 = bump ps ((kids nd).take k.2.2.2.2.2.2.2.2.1.toNat) ∧ ∀ c ∈ (kids nd).take k.2.2.2.2.2.2.2.2.1.toNat, 0 ≤ c ∧ c ≤ i - 1) (fun k => ((kids nd).length - k.2.2.2.2.2.2.2.2.1).toNat)
    ⟨rfl, rfl, rfl, rfl, rfl, by simp, by simp, rfl, by simp [bump], fun c hc => by simp at hc⟩ ?_
  rintro ⟨k1, k2, k3, k4, k5, k6, cs, cn, j, m, arr, u⟩ ⟨g1, g2, g3, g4, g5, g6, g7, g8, g9, g10⟩
  simp only at g1 g2 g3 g4 g5 g6 g7 g8 g9 g10
  rw [g1, g2, g3, g4, g5, g8]
  have hkl := kids_le nd
  have hal : arr.length = ns.length := by rw [g9, bump_length, h5, bump_length]; simp
  unfold lp36_1
  simp only [VT.H_ite_iff, HL_iff, VT.H_step_iff, VT.H_exit_iff, VT.H_ret_iff, VT.H_pre_iff, VT.H_next_iff, decide_eq_true_eq]
  split
  · rename_i hj
    have hj' : j.toNat < (kids nd).length := by omega
    have e1 : IntKind.wrap .i64 (i - 1) = i - 1 := wrap_i64 (by omega) (by omega)
    obtain ⟨v1, v2⟩ := h43 ((kids nd).getD j.toNat 0) 0 (i - 1)
    rw [e1, v2]
    refine ⟨g6, hj, v1, ?_⟩
    by_cases hc : 0 ≤ (kids nd).getD j.toNat 0 ∧ (kids nd).getD j.toNat 0 ≤ i - 1
    · rw [decide_eq_true hc]
      simp only [Bool.not_true, Bool.false_eq_true, if_false]
      have e2 : IntKind.wrap .i64 (j + 1) = j + 1 := wrap_i64 (by omega) (by omega)
      have e3 : IntKind.wrap .i64 (arr.getD ((kids nd).getD j.toNat 0).toNat 0 + 1) = arr.getD ((kids nd).getD j.toNat 0).toNat 0 + 1 := by
        have hr := refs_range (m := i.toNat) (by omega) h6
        have hb2 := bump_small (m := ns.length) (cs := refs (ns.take i.toNat) ++ (kids nd).take j.toNat) (fun c hcm => by
          rcases List.mem_append.1 hcm with h | h
          · exact hr c h
          · have := g10 c h; omega) ((kids nd).getD j.toNat 0).toNat
        rw [bump_append, ← h5, ← g9] at hb2
        have hl2 := refs_length (ns.take i.toNat)
        simp only [List.length_append, List.length_take] at hb2 hl2
        exact wrap_i64 (by omega) (by omega)
      rw [e2, e3]
      refine ⟨hc.1, by omega, by omega, hc.1, by omega, by omega, ⟨trivial, trivial, trivial, trivial, trivial, by omega, by omega, trivial, ?_, ?_⟩, by omega⟩
      · rw [show (j + 1).toNat = j.toNat + 1 by omega, take_succ' hj' 0, bump_append, ← g9]
        rfl
      · rw [show (j + 1).toNat = j.toNat + 1 by omega, take_succ' hj' 0]
        intro c hcm
        rcases List.mem_append.1 hcm with h | h
        · exact g10 c h
        · rw [List.mem_singleton.1 h]; exact hc
    · rw [decide_eq_false hc]
      simp only [Bool.not_false, if_true]
      exact hbad _ (getD_mem hj') hc
  · have hj : j.toNat = (kids nd).length := by omega
    rw [hj, List.take_length] at g9 g10
    have e2 : IntKind.wrap .i64 (i + 1) = i + 1 := wrap_i64 (by omega) (by omega)
    rw [e2, g9]
    exact hgood g10

theorem h36 (ns : List NodeD) (hsm : small_nums ns) (hl : ns.length ≤ 1000000) : (∀ p ∈ pp36 ((ns, ()), ()), p) ∧ ((ff36 ((ns, ()), ())).1.1 = true ↔ Valid ns) := by
  refine VT.H_in (P := fun w : W36 => w.1.1 = true ↔ Valid ns) ?_
  obtain ⟨q1, q2⟩ := h43 ns.length 1 16
  unfold tr36
  simp only [VT.H_ret_iff, VT.H_pre_iff, VT.H_step_iff, VT.H_ite_iff, HL_iff, q2]
  refine ⟨q1, ?_⟩
  by_cases hb : 1 ≤ ns.length ∧ ns.length ≤ 16
  rotate_left
  · rw [decide_eq_false (by omega)]
    simp only [Bool.not_false, if_true, Bool.false_eq_true, false_iff]
    exact fun h => hb ⟨h.low, h.high⟩
  rw [decide_eq_true (by omega)]
  simp only [Bool.not_true, Bool.false_eq_true, if_false]
  refine ⟨trivial, by omega, by omega, ?_⟩
  refine HL_in (fun k : K36_r5 => k.1 = ns.length ∧ 0 ≤ k.2.1 ∧ k.2.1 ≤ ns.length ∧ k.2.2.1 = ns.length ∧ k.2.2.2.1 = bump (List.replicate ns.length 0) (refs (ns.take k.2.1.toNat)) ∧ ∀ i, i < k.2.1.toNat → nodeOk i (ns.getD i (0, 0, 0, [], ()))) (fun k => (ns.length - k.2.1).toNat) ⟨rfl, by simp, by simp, by simp, by simp [refs, bump], fun i hi => by simp at hi⟩ ?_
  rintro ⟨n, i, m, ps, u⟩ ⟨h1, h2, h3, h4, h5, h6⟩
  simp only at h1 h2 h3 h4 h5 h6
  subst h1; subst h4
  unfold lp36_2
  simp only [VT.H_ite_iff, HL_iff, VT.H_step_iff, VT.H_exit_iff, VT.H_ret_iff, VT.H_pre_iff, decide_eq_true_eq]
  have hps : ps.length = ns.length := by rw [h5, bump_length]; simp
  split
  · rename_i hi
    have hi' : i.toNat < ns.length := by omega
    have hmem : ns.getD i.toNat (0, 0, 0, [], ()) ∈ ns := getD_mem hi'
    obtain ⟨nd, hnd⟩ : ∃ nd, ns.getD i.toNat (0, 0, 0, [], ()) = nd := ⟨_, rfl⟩
    rw [hnd] at hmem
    obtain ⟨r1, r2⟩ := h68 nd.1 nd.2.2.2.1 (hsm nd hmem)
    obtain ⟨s1, s2⟩ := h69 nd
    obtain ⟨t1, t2⟩ := h70 nd
    simp only [hnd]
    refine ⟨h2, hi, r1, ?_⟩
    rw [r2]
    cases hno : numsOk nd.1 nd.2.2.2.1 with
    | false =>
      simp only [Bool.not_false, if_true, Bool.false_eq_true, false_iff]
      intro hv
      have := (hv.nodes i.toNat hi').1
      rw [hnd, hno] at this
      cases this
    | true =>
      simp only [Bool.not_true, Bool.false_eq_true, if_false]
      refine ⟨s1, ?_⟩
      simp only [s2]
      cases hax : axOk nd with
      | false =>
        simp only [Bool.not_false, if_true, Bool.false_eq_true, false_iff]
        intro hv
        have := (hv.nodes i.toNat hi').2.1
        rw [hnd, hax] at this
        cases this
      | true =>
        simp only [Bool.not_true, Bool.false_eq_true, if_false]
        refine ⟨t1, ?_⟩
        simp only [t2]
        refine h36_in hb.2 h2 hi h5 h6 (fun c hc hn => ?_) (fun hall => ?_)
        · simp only [Bool.false_eq_true, false_iff]
          intro hv
          have := (hv.nodes i.toNat hi').2.2 c (by rw [hnd]; exact hc)
          omega
        · simp only
          refine ⟨⟨trivial, by omega, by omega, trivial, ?_, fun k hk => ?_⟩, by omega⟩
          · rw [show (i + 1).toNat = i.toNat + 1 by omega, take_succ' hi' (0, 0, 0, [], ()), refs, List.flatMap_append, bump_append, hnd, h5]
            simp [refs]
          · by_cases hik : k = i.toNat
            · subst hik
              rw [hnd]
              exact ⟨hno, hax, fun c hc => by have := hall c hc; omega⟩
            · exact h6 k (by omega)
  · have hi : i.toNat = ns.length := by omega
    rw [hi, List.take_length] at h5
    have e1 : IntKind.wrap .i64 ((ns.length : Int) - 1) = (ns.length : Int) - 1 := wrap_i64 (by omega) (by omega)
    rw [e1]
    refine ⟨by omega, by omega, by omega, ?_⟩
    have hl1 : ((ns.length : Int) - 1).toNat = ns.length - 1 := by omega
    rw [hl1]
    have hv : Valid ns ↔ ps.getD (ns.length - 1) 0 = 0 ∧ ∀ x ∈ ps.take (ns.length - 1), x = 1 := by
      rw [h5]
      exact ⟨fun h => ⟨h.root, h.once⟩, fun h => ⟨hb.1, hb.2, fun i hi2 => h6 i (by omega), h.1, h.2⟩⟩
    rw [hv]
    by_cases h0 : ps.getD (ns.length - 1) 0 = 0
    · rw [if_pos h0]
      obtain ⟨w1, w2⟩ := h71 ((ps.drop (0 : Int).toNat).take (ns.length - 1 - (0 : Int).toNat)) (fun x => (ff72 (x, ())).1.1) (by simp; omega)
      refine ⟨by decide, by omega, by omega, fun x => (h72 x).1, w1, ?_⟩
      rw [w2]
      have e : (fun x => (ff72 (x, ())).1.1) = fun x => !decide (x = (1 : Int)) := funext fun x => by rw [(h72 x).2]
      rw [e]
      have h0' : ps[ns.length - 1]?.getD 0 = 0 := h0
      simp [h0']
    · rw [if_neg h0]
      have h0' : ¬ ps[ns.length - 1]?.getD 0 = 0 := h0
      simp [h0']
end Go.Proofs.Ytmlolnaannoifaa

/- Shapes that are cloned, wrapped, joined. -/
namespace Go.Proofs.Ytmlolnaannoifaa

theorem h136 (l : List Nat) (hl : l.length ≤ 1000000000000) : (∀ p ∈ pp136 (l, ()), p) ∧ ff136 (l, ()) = ((l, ()), ()) := by
  refine VT.H_in (P := fun w : W136 => w = ((l, ()), ())) ?_
  unfold tr136
  refine VT.H_pb (fun h => ⟨trivial, ?_⟩) ?_
  · simp only at h
    subst h; rfl
  · simp only [VT.H_step_iff, VT.H_ret_iff]
    exact ⟨by omega, trivial, trivial⟩

theorem h103 (n : NodeD) (hl : n.2.2.2.1.length ≤ 1000000000000) : (∀ p ∈ pp103 (n, ()), p) ∧ ff103 (n, ()) = ((n, ()), ()) := by
  refine VT.H_in (P := fun w : W103 => w = ((n, ()), ())) ?_
  obtain ⟨q1, q2⟩ := h136 _ hl
  unfold tr103
  simp only [VT.H_pre_iff, VT.H_ret_iff, q2]
  exact ⟨q1, trivial⟩

theorem h62 (ns : List NodeD) (hsm : small_nums ns) (hl : ns.length ≤ 1000000) : (∀ p ∈ pp62 ((ns, ()), ()), p) ∧ ff62 ((ns, ()), ()) = (((ns, ()), ()), ()) := by
  refine VT.H_in (P := fun w : W62 => w = (((ns, ()), ()), ())) ?_
  unfold tr62
  refine VT.H_loop (fun k : K62_r3 => k.1 = ns.length ∧ 0 ≤ k.2.1 ∧ k.2.1 ≤ ns.length ∧ k.2.2.1 = ns.take k.2.1.toNat) (fun k => (ns.length - k.2.1).toNat) ⟨rfl, by simp, by simp, by simp⟩ ?_
  rintro ⟨n, i, out, u⟩ ⟨h1, h2, h3, h4⟩
  simp only at h1 h2 h3 h4
  rw [h1]
  unfold lp62_1
  simp only [VT.H_ite_iff, HL_iff, VT.H_step_iff, VT.H_exit_iff, VT.H_ret_iff, VT.H_pre_iff, VT.H_next_iff, decide_eq_true_eq]
  split
  · rename_i hi
    have hi' : i.toNat < ns.length := by omega
    obtain ⟨q1, q2⟩ := h103 (ns.getD i.toNat (0, 0, 0, [], ())) (hsm _ (getD_mem hi'))
    have e2 : IntKind.wrap .i64 (i + 1) = i + 1 := wrap_i64 (by omega) (by omega)
    rw [q2, e2]
    have hlen : out.length = i.toNat := by rw [h4, List.length_take]; omega
    refine ⟨h2, hi, q1, trivial, by simp only [List.length_cons, List.length_nil]; omega, ⟨trivial, by omega, by omega, ?_⟩, by omega⟩
    rw [show (i + 1).toNat = i.toNat + 1 by omega, take_succ' hi' (0, 0, 0, [], ()), h4]
  · have hi : i.toNat = ns.length := by omega
    rw [hi, List.take_length] at h4
    rw [h4]
    exact ⟨trivial, rfl⟩

theorem h64 (ns : List NodeD) (hsm : small_nums ns) (hl : ns.length ≤ 1000000) : (∀ p ∈ pp64 ((ns, ()), ()), p) ∧
    ((Valid ns → ff64 ((ns, ()), ()) = (((ns, ()), true, ()), ())) ∧ (¬ Valid ns → ff64 ((ns, ()), ()) = ((([], ()), false, ()), ()))) := by
  refine VT.H_in (P := fun w : W64 => (Valid ns → w = (((ns, ()), true, ()), ())) ∧ (¬ Valid ns → w = ((([], ()), false, ()), ()))) ?_
  obtain ⟨q1, q2⟩ := h36 ns hsm hl
  obtain ⟨r1, r2⟩ := h62 ns hsm hl
  unfold tr64
  simp only [VT.H_pre_iff, VT.H_ret_iff, VT.H_ite_iff, VT.H_step_iff, r2]
  refine ⟨q1, ?_⟩
  cases hv : (ff36 ((ns, ()), ())).1.1 with
  | false =>
    rw [hv] at q2
    have : ¬ Valid ns := fun h => by have := q2.2 h; cases this
    simp [this]
  | true =>
    rw [hv] at q2
    have : Valid ns := q2.1 rfl
    simp [this]
    exact r1

theorem h63 (ns : List NodeD) (hl : ns.length ≤ 1000000) : (∀ p ∈ pp63 ((ns, ()), ()), p) ∧ ff63 ((ns, ()), ()) = (((ns.length : Int) - 1, ()), ()) := by
  refine VT.H_in (P := fun w : W63 => w = (((ns.length : Int) - 1, ()), ())) ?_
  unfold tr63
  simp only [VT.H_ret_iff]
  rw [wrap_i64 (by omega) (by omega)]

/- validity by counting -/
theorem replicate_getD (m i : Nat) : (List.replicate m (0 : Int)).getD i 0 = 0 := by
  simp only [List.getD, List.getElem?_replicate]; split <;> rfl

theorem refs_all {ns : List NodeD} (h : nodesOk ns) : ∀ c ∈ refs ns, 0 ≤ c ∧ c.toNat < ns.length := by
  have := refs_range (ns := ns) (m := ns.length) (Nat.le_refl _) h
  rwa [List.take_length] at this

/-- Each node but the last one has one parent. -/
def Counted (ns : List NodeD) : Prop := ∀ i, i < ns.length → (refs ns).count (i : Int) = if i + 1 = ns.length then 0 else 1

theorem valid_iff {ns : List NodeD} (h1 : 1 ≤ ns.length) (hn : nodesOk ns) : ((bump (List.replicate ns.length 0) (refs ns)).getD (ns.length - 1) 0 = 0 ∧ ∀ x ∈ (bump (List.replicate ns.length 0) (refs ns)).take (ns.length - 1), x = 1) ↔ Counted ns := by
  have hg : ∀ i, i < ns.length → (bump (List.replicate ns.length 0) (refs ns)).getD i 0 = ((refs ns).count (i : Int) : Int) := fun i hi => by
    rw [bump_getD i _ _ (by simpa using refs_all hn), replicate_getD, if_pos (by simpa using hi), Int.zero_add]
  have hlen : (bump (List.replicate ns.length 0) (refs ns)).length = ns.length := by rw [bump_length]; simp
  constructor
  · rintro ⟨q1, q2⟩ i hi
    by_cases hl : i + 1 = ns.length
    · rw [if_pos hl]
      rw [show ns.length - 1 = i by omega, hg i hi] at q1
      omega
    · rw [if_neg hl]
      have hm : (bump (List.replicate ns.length 0) (refs ns)).getD i 0 ∈ (bump (List.replicate ns.length 0) (refs ns)).take (ns.length - 1) := by
        rw [List.mem_take_iff_getElem]
        refine ⟨i, by omega, ?_⟩
        simp [List.getD, hlen, hi]
      have := q2 _ hm
      rw [hg i hi] at this
      omega
  · intro hc
    refine ⟨?_, fun x hx => ?_⟩
    · rw [hg _ (by omega), hc _ (by omega), if_pos (by omega)]; rfl
    · rw [List.mem_take_iff_getElem] at hx
      obtain ⟨i, hi, rfl⟩ := hx
      have hi' : i < ns.length := by omega
      have := hg i hi'
      rw [hc i hi', if_neg (by omega)] at this
      simpa [List.getD, hlen, hi'] using this

theorem Valid.counted {ns : List NodeD} (h : Valid ns) : Counted ns := (valid_iff h.low h.nodes).1 ⟨h.root, h.once⟩
theorem valid_of {ns : List NodeD} (h1 : 1 ≤ ns.length) (h2 : ns.length ≤ 16) (h3 : nodesOk ns) (h4 : Counted ns) : Valid ns :=
  ⟨h1, h2, h3, ((valid_iff h1 h3).2 h4).1, ((valid_iff h1 h3).2 h4).2⟩

theorem nodesOk_append {a b : List NodeD} : nodesOk (a ++ b) ↔ nodesOk a ∧ ∀ i, i < b.length → nodeOk (a.length + i) (b.getD i (0, 0, 0, [], ())) := by
  constructor
  · intro h
    refine ⟨fun i hi => ?_, fun i hi => ?_⟩
    · have := h i (by simp; omega)
      simpa [List.getD, List.getElem?_append_left hi] using this
    · have := h (a.length + i) (by simp; omega)
      simpa [List.getD, List.getElem?_append_right (Nat.le_add_right a.length i)] using this
  · rintro ⟨h1, h2⟩ i hi
    by_cases hia : i < a.length
    · have := h1 i hia
      simpa [List.getD, List.getElem?_append_left hia] using this
    · have := h2 (i - a.length) (by simp at hi; omega)
      rw [show a.length + (i - a.length) = i by omega] at this
      simpa [List.getD, List.getElem?_append_right (show a.length ≤ i by omega)] using this

theorem refs_append (a b : List NodeD) : refs (a ++ b) = refs a ++ refs b := by simp [refs]
theorem refs_one (n : NodeD) : refs [n] = kids n := by simp [refs]

/-- A node's children counted on. -/
def shift (by_ : Int) (n : NodeD) : NodeD := (n.1, if 0 < (ruleT n.1).2.1 then n.2.1 + by_ else n.2.1, if 1 < (ruleT n.1).2.1 then n.2.2.1 + by_ else n.2.2.1, n.2.2.2.1, ())

theorem kids_shift (by_ : Int) (n : NodeD) : kids (shift by_ n) = (kids n).map (· + by_) := by
  unfold kids shift
  rcases rule_kids n.1 with h | h | h <;> simp [h]

theorem axOk_shift (by_ : Int) (n : NodeD) (h : axOk n = true) : axOk (shift by_ n) = true := by
  unfold axOk shift at *
  rcases rule_kids n.1 with h1 | h1 | h1 <;> simp_all

theorem refs_shift (by_ : Int) (b : List NodeD) : refs (b.map (shift by_)) = (refs b).map (· + by_) := by
  induction b with
  | nil => rfl
  | cons n b ih =>
    simp only [refs, List.map_cons, List.flatMap_cons, List.map_append] at ih ⊢
    rw [kids_shift, ih]

theorem shift_ok {a : List NodeD} {b : List NodeD} (hb : nodesOk b) : ∀ i, i < (b.map (shift a.length)).length → nodeOk (a.length + i) ((b.map (shift a.length)).getD i (0, 0, 0, [], ())) := by
  intro i hi
  have hi' : i < b.length := by simpa using hi
  have h := hb i hi'
  have e : (b.map (shift a.length)).getD i (0, 0, 0, [], ()) = shift a.length (b.getD i (0, 0, 0, [], ())) := by simp [List.getD, hi']
  rw [e]
  refine ⟨h.1, axOk_shift _ _ h.2.1, fun c hc => ?_⟩
  rw [kids_shift] at hc
  obtain ⟨d, hd, rfl⟩ := List.mem_map.1 hc
  have := h.2.2 d hd
  omega

theorem count_none {l : List Int} {x : Int} (h : ∀ c ∈ l, c ≠ x) : l.count x = 0 := List.count_eq_zero.2 fun hm => h x hm rfl
theorem count_map_add (l : List Int) (d x : Int) : (l.map (· + d)).count x = l.count (x - d) := by
  induction l with
  | nil => rfl
  | cons c l ih =>
    rw [List.map_cons, List.count_cons, List.count_cons, ih]
    congr 1
    by_cases h : c + d = x
    · have h2 : c = x - d := by omega
      simp [h, h2]
    · have h2 : ¬ c = x - d := by omega
      simp [h, h2]

/-- Wrapped once more. -/
theorem valid_wrap {a : List NodeD} {n : NodeD} (ha : Valid a) (hk : kids n = [(a.length : Int) - 1]) (hn : numsOk n.1 n.2.2.2.1 = true) (hx : axOk n = true) : Valid (a ++ [n]) ↔ a.length + 1 ≤ 16 := by
  constructor
  · intro h; have := h.high; simpa using this
  · intro h
    have hl := ha.low
    refine valid_of (by simp) (by simpa using h) (nodesOk_append.2 ⟨ha.nodes, fun i hi => ?_⟩) fun i hi => ?_
    · have : i = 0 := by simpa using hi
      subst this
      refine ⟨hn, hx, fun c hc => ?_⟩
      have hc' : c ∈ kids n := hc
      rw [hk] at hc'
      have := List.mem_singleton.1 hc'
      simp only [Nat.add_zero]
      omega
    · rw [refs_append, refs_one, hk, List.count_append, List.count_singleton]
      simp only [List.length_append, List.length_cons, List.length_nil] at hi ⊢
      by_cases hia : i < a.length
      · rw [ha.counted i hia, if_neg (show ¬ i + 1 = a.length + (0 + 1) by omega)]
        by_cases hlast : i + 1 = a.length
        · rw [if_pos hlast, if_pos (by simp; omega)]
        · rw [if_neg hlast, if_neg (by simp; omega)]
      · rw [count_none (fun c hc => by have := refs_all ha.nodes c hc; omega), if_pos (show i + 1 = a.length + (0 + 1) by omega), if_neg (show ¬ ((a.length : Int) - 1 == (i : Int)) = true by simp; omega)]

/-- Joined. -/
theorem valid_join {a b : List NodeD} {n : NodeD} (ha : Valid a) (hb : Valid b) (hk : kids n = [(a.length : Int) - 1, (a.length : Int) + b.length - 1]) (hn : numsOk n.1 n.2.2.2.1 = true) (hx : axOk n = true) :
    Valid (a ++ b.map (shift a.length) ++ [n]) ↔ a.length + b.length + 1 ≤ 16 := by
  constructor
  · intro h; have := h.high; simp at this; omega
  · intro h
    have hl := ha.low
    have hl2 := hb.low
    refine valid_of (by simp; omega) (by simp; omega) (nodesOk_append.2 ⟨nodesOk_append.2 ⟨ha.nodes, shift_ok hb.nodes⟩, fun i hi => ?_⟩) fun i hi => ?_
    · have : i = 0 := by simpa using hi
      subst this
      refine ⟨hn, hx, fun c hc => ?_⟩
      have hc' : c ∈ kids n := hc
      rw [hk] at hc'
      simp only [List.mem_cons, List.not_mem_nil, or_false] at hc'
      simp only [Nat.add_zero, List.length_append, List.length_map]
      omega
    · rw [refs_append, refs_append, refs_one, refs_shift, hk, List.count_append, List.count_append, count_map_add, List.count_cons, List.count_singleton]
      simp only [List.length_append, List.length_map, List.length_cons, List.length_nil] at hi ⊢
      by_cases hia : i < a.length
      · rw [ha.counted i hia, count_none (fun c hc => by have := refs_all hb.nodes c hc; omega), if_neg (show ¬ i + 1 = a.length + b.length + (0 + 1) by omega), if_neg (show ¬ _ = true by simp; omega)]
        by_cases hlast : i + 1 = a.length
        · rw [if_pos hlast, if_pos (by simp; omega)]
        · rw [if_neg hlast, if_neg (by simp; omega)]
      · rw [count_none (fun c hc => by have := refs_all ha.nodes c hc; omega)]
        by_cases hib : i < a.length + b.length
        · rw [show ((i : Int) - a.length) = ((i - a.length : Nat) : Int) by omega, hb.counted _ (by omega), if_neg (show ¬ i + 1 = a.length + b.length + (0 + 1) by omega), if_neg (show ¬ ((a.length : Int) - 1 == (i : Int)) = true by simp; omega)]
          by_cases hlast : i - a.length + 1 = b.length
          · rw [if_pos hlast, if_pos (by simp; omega)]
          · rw [if_neg hlast, if_neg (by simp; omega)]
        · rw [count_none (fun c hc => by have := refs_all hb.nodes c hc; omega), if_pos (show i + 1 = a.length + b.length + (0 + 1) by omega), if_neg (show ¬ ((a.length : Int) - 1 == (i : Int)) = true by simp; omega), if_neg (show ¬ ((a.length : Int) + b.length - 1 == (i : Int)) = true by simp; omega)]
end Go.Proofs.Ytmlolnaannoifaa

/- Wrapping, joining, uniting as the program does it. -/
namespace Go.Proofs.Ytmlolnaannoifaa

theorem Valid.small {ns : List NodeD} (h : Valid ns) : small_nums ns := by
  intro n hn
  obtain ⟨i, hi, rfl⟩ := List.getElem_of_mem hn
  have := (h.nodes i hi).1
  have e : ns.getD i (0, 0, 0, [], ()) = ns[i] := by simp [List.getD, hi]
  rw [e] at this
  unfold numsOk at this
  simp only [Bool.and_eq_true, decide_eq_true_eq] at this
  have h2 := this.2.1
  have h3 : (ruleT ns[i].1).1 ≤ 4 := by
    by_cases h : 0 ≤ ns[i].1 ∧ ns[i].1 ≤ 16
    · revert h
      generalize ns[i].1 = k
      intro h
      rcases kind_cases h with rfl | rfl | rfl | rfl | rfl | rfl | rfl | rfl | rfl | rfl | rfl | rfl | rfl | rfl | rfl | rfl | rfl <;> decide
    · rw [rule_none h]; decide
  omega

theorem small_append {a b : List NodeD} (ha : small_nums a) (hb : small_nums b) : small_nums (a ++ b) := by
  intro n hn
  rcases List.mem_append.1 hn with h | h
  · exact ha n h
  · exact hb n h

theorem kids_A {n : NodeD} (h : 0 < (ruleT n.1).2.1) : n.2.1 ∈ kids n := by
  unfold kids
  rcases rule_kids n.1 with h' | h' | h' <;> rw [h'] <;> simp
  omega
theorem kids_B {n : NodeD} (h : 1 < (ruleT n.1).2.1) : n.2.2.1 ∈ kids n := by
  unfold kids
  rcases rule_kids n.1 with h' | h' | h' <;> rw [h'] <;> simp
  all_goals omega

/-- A shape that is moved. -/
theorem h33 (a : List NodeD) (v : List Nat) (ha : Valid a) (hv : v.length = 3) (hf : v.all fin = true) : (∀ p ∈ pp33 (9, (a, ()), 0, v, ()), p) ∧
    ((a.length + 1 ≤ 16 → ff33 (9, (a, ()), 0, v, ()) = (((a ++ [(9, (a.length : Int) - 1, 0, v, ())], ()), true, ()), ())) ∧ (¬ a.length + 1 ≤ 16 → ff33 (9, (a, ()), 0, v, ()) = ((([], ()), false, ()), ()))) := by
  refine VT.H_in (P := fun w : W33 => (a.length + 1 ≤ 16 → w = (((a ++ [(9, (a.length : Int) - 1, 0, v, ())], ()), true, ()), ())) ∧ (¬ a.length + 1 ≤ 16 → w = ((([], ()), false, ()), ()))) ?_
  have hh := ha.high
  obtain ⟨p1, p2⟩ := h61 9
  obtain ⟨q1, q2⟩ := h36 a ha.small (by omega)
  obtain ⟨r1, r2⟩ := h62 a ha.small (by omega)
  obtain ⟨s1, s2⟩ := h63 a (by omega)
  have hsm : small_nums (a ++ [(9, (a.length : Int) - 1, 0, v, ())]) := small_append ha.small (fun n hn => by
    have := List.mem_singleton.1 hn
    subst this
    simp only; omega)
  obtain ⟨t1, t2, t3⟩ := h64 (a ++ [(9, (a.length : Int) - 1, 0, v, ())]) hsm (by simp; omega)
  have hno : numsOk 9 v = true := by
    unfold numsOk
    have e1 : ruleB 9 = true := by decide
    have e2 : (ruleT 9).1 = 3 := by decide
    have e3 : (ruleT 9).2.2.2.1 = 0 := by decide
    have e4 : v.any (badS 0) = false := by
      rw [List.any_eq_false]
      intro x _
      simp [badS]
    rw [e1, e2, e3, e4, hf]
    simp [hv]
  have hvw := valid_wrap (n := (9, (a.length : Int) - 1, 0, v, ())) ha (by simp [kids, show (ruleT 9).2.1 = 1 by decide]) hno (by simp [axOk, show (ruleT 9).2.1 = 1 by decide])
  unfold tr33
  simp only [VT.H_pre_iff, VT.H_ret_iff, VT.H_ite_iff, VT.H_step_iff, p2, r2, s2]
  have e1 : ruleB 9 = true := by decide
  have e2 : (ruleT 9).2.1 = 1 := by decide
  simp only [e1, e2, q2.2 ha, Bool.not_true, Bool.false_eq_true, if_false, decide_true]
  refine ⟨p1, q1, r1, s1, trivial, by simp; omega, trivial, t1, ?_, ?_⟩
  · intro h
    rw [t2 (hvw.2 h)]
  · intro h
    rw [t3 (fun hx => h (hvw.1 hx))]

theorem map_take_succ {α β : Type} {l : List α} {i : Nat} (h : i < l.length) (d : α) (f : α → β) : (l.take (i + 1)).map f = (l.take i).map f ++ [f (l.getD i d)] := by
  rw [take_succ' h d]; simp

/-- Two shapes joined. -/
theorem h65 (k : Int) (a b : List NodeD) (hk : k = 5 ∨ k = 6 ∨ k = 7) (ha : Valid a) (hb : Valid b) : (∀ p ∈ pp65 (k, (a, ()), (b, ()), [], ()), p) ∧
    ((a.length + b.length + 1 ≤ 16 → ff65 (k, (a, ()), (b, ()), [], ()) = (((a ++ b.map (shift a.length) ++ [(k, (a.length : Int) - 1, (a.length : Int) + b.length - 1, [], ())], ()), true, ()), ())) ∧
     (¬ a.length + b.length + 1 ≤ 16 → ff65 (k, (a, ()), (b, ()), [], ()) = ((([], ()), false, ()), ()))) := by
  refine VT.H_in (P := fun w : W65 => (a.length + b.length + 1 ≤ 16 → w = (((a ++ b.map (shift a.length) ++ [(k, (a.length : Int) - 1, (a.length : Int) + b.length - 1, [], ())], ()), true, ()), ())) ∧ (¬ a.length + b.length + 1 ≤ 16 → w = ((([], ()), false, ()), ()))) ?_
  have hh := ha.high
  have hh2 := hb.high
  obtain ⟨p1, p2⟩ := h61 k
  obtain ⟨q1, q2⟩ := h36 a ha.small (by omega)
  obtain ⟨r1, r2⟩ := h62 a ha.small (by omega)
  obtain ⟨q3, q4⟩ := h36 b hb.small (by omega)
  obtain ⟨s1, s2⟩ := h63 a (by omega)
  have e1 : ruleB k = true := by rcases hk with rfl | rfl | rfl <;> decide
  have e2 : (ruleT k).2.1 = 2 := by rcases hk with rfl | rfl | rfl <;> decide
  have hno : numsOk k [] = true := by rcases hk with rfl | rfl | rfl <;> decide
  have hsb : small_nums (b.map (shift a.length)) := by
    intro n hn
    obtain ⟨m, hm, rfl⟩ := List.mem_map.1 hn
    exact hb.small m hm
  have hs1 : small_nums (a ++ b.map (shift a.length)) := small_append ha.small hsb
  have hsm : small_nums (a ++ b.map (shift a.length) ++ [(k, (a.length : Int) - 1, (a.length : Int) + b.length - 1, [], ())]) := small_append hs1 (fun n hn => by
    have := List.mem_singleton.1 hn
    subst this
    simp)
  obtain ⟨t1, t2, t3⟩ := h64 _ hsm (by simp; omega)
  obtain ⟨u1, u2⟩ := h63 (a ++ b.map (shift a.length)) (by simp; omega)
  have hvw := valid_join (n := (k, (a.length : Int) - 1, (a.length : Int) + b.length - 1, [], ())) ha hb (by simp [kids, e2]) hno (by simp [axOk, e2])
  unfold tr65
  simp only [VT.H_pre_iff, VT.H_ret_iff, VT.H_ite_iff, VT.H_step_iff, HL_iff, p2, r2]
  simp only [e1, e2, q2.2 ha, q4.2 hb, Bool.not_true, Bool.false_eq_true, if_false, decide_true]
  refine ⟨p1, q1, q3, r1, ?_⟩
  refine HL_in (fun k : K65_r6 => k.1 = a.length ∧ k.2.1 = b.length ∧ 0 ≤ k.2.2.1 ∧ k.2.2.1 ≤ b.length ∧ k.2.2.2.1 = a ++ (b.take k.2.2.1.toNat).map (shift a.length)) (fun k => (b.length - k.2.2.1).toNat) ⟨rfl, rfl, by simp, by simp, by simp⟩ ?_
  rintro ⟨n, m, i, out, u⟩ ⟨h1, h2, h3, h4, h5⟩
  simp only at h1 h2 h3 h4 h5
  rw [h1, h2]
  unfold lp65_1
  simp only [VT.H_ite_iff, HL_iff, VT.H_step_iff, VT.H_exit_iff, VT.H_ret_iff, VT.H_pre_iff, VT.H_next_iff, decide_eq_true_eq]
  split
  · rename_i hi
    have hi' : i.toNat < b.length := by omega
    have hmem : b.getD i.toNat (0, 0, 0, [], ()) ∈ b := getD_mem hi'
    have hok := hb.nodes i.toNat hi'
    obtain ⟨v1, v2⟩ := h61 (b.getD i.toNat (0, 0, 0, [], ())).1
    have e3 : IntKind.wrap .i64 (i + 1) = i + 1 := wrap_i64 (by omega) (by omega)
    have hlen : out.length = a.length + i.toNat := by rw [h5]; simp; omega
    have hnext : ∀ nd : NodeD, nd = shift a.length (b.getD i.toNat (0, 0, 0, [], ())) → out ++ [nd] = a ++ (b.take (i + 1).toNat).map (shift a.length) := fun nd hnd => by
      rw [show (i + 1).toNat = i.toNat + 1 by omega, map_take_succ hi' (0, 0, 0, [], ()), h5, hnd, List.append_assoc]
    have hkids := hok.2.2
    have eA : 0 < (ruleT (b.getD i.toNat (0, 0, 0, [], ())).1).2.1 → IntKind.wrap .i64 ((b.getD i.toNat (0, 0, 0, [], ())).2.1 + a.length) = (b.getD i.toNat (0, 0, 0, [], ())).2.1 + a.length := fun h => by
      have := hkids (b.getD i.toNat (0, 0, 0, [], ())).2.1 (kids_A h)
      exact wrap_i64 (by omega) (by omega)
    have eB : 1 < (ruleT (b.getD i.toNat (0, 0, 0, [], ())).1).2.1 → IntKind.wrap .i64 ((b.getD i.toNat (0, 0, 0, [], ())).2.2.1 + a.length) = (b.getD i.toNat (0, 0, 0, [], ())).2.2.1 + a.length := fun h => by
      have := hkids (b.getD i.toNat (0, 0, 0, [], ())).2.2.1 (kids_B h)
      exact wrap_i64 (by omega) (by omega)
    rw [v2, e3]
    refine ⟨h3, hi, v1, ?_⟩
    simp only
    generalize b.getD i.toNat (0, 0, 0, [], ()) = nd at *
    split
    · rename_i hA
      rw [eA hA]
      split
      · rename_i hB
        rw [eB hB]
        refine ⟨trivial, by simp only [List.length_cons, List.length_nil]; omega, ⟨trivial, trivial, by omega, by omega, hnext _ ?_⟩, by omega⟩
        simp [shift, hA, hB]
      · rename_i hB
        refine ⟨trivial, by simp only [List.length_cons, List.length_nil]; omega, ⟨trivial, trivial, by omega, by omega, hnext _ ?_⟩, by omega⟩
        simp [shift, hA, hB]
    · rename_i hA
      rw [if_neg (by omega)]
      refine ⟨trivial, by simp only [List.length_cons, List.length_nil]; omega, ⟨trivial, trivial, by omega, by omega, hnext _ ?_⟩, by omega⟩
      simp [shift, hA]
      omega
  · have hi : i.toNat = b.length := by omega
    rw [hi, List.take_length] at h5
    rw [h5]
    have hu : ((a ++ b.map (shift a.length)).length : Int) - 1 = (a.length : Int) + b.length - 1 := by simp
    rw [s2, u2]
    simp only [hu]
    refine ⟨s1, trivial, u1, trivial, by simp; omega, trivial, t1, ?_, ?_⟩
    · intro h
      rw [t2 (hvw.2 h)]
    · intro h
      rw [t3 (fun hx => h (hvw.1 hx))]
end Go.Proofs.Ytmlolnaannoifaa

/- The union of shapes. -/
namespace Go.Proofs.Ytmlolnaannoifaa

def joinS (a b : List NodeD) : List NodeD := a ++ b.map (shift a.length) ++ [(5, (a.length : Int) - 1, (a.length : Int) + b.length - 1, [], ())]
def joinAll (a : List NodeD) (r : List (List NodeD × Unit)) : List NodeD := r.foldl (fun a b => joinS a b.1) a
def sizeAll (r : List (List NodeD × Unit)) : Nat := (r.map fun b => b.1.length + 1).sum

theorem joinS_length (a b : List NodeD) : (joinS a b).length = a.length + (b.length + 1) := by simp [joinS, Nat.add_assoc]
theorem joinAll_length (r : List (List NodeD × Unit)) : ∀ a, (joinAll a r).length = a.length + sizeAll r := by
  induction r with
  | nil => intro a; simp [joinAll, sizeAll]
  | cons b r ih =>
    intro a
    have := ih (joinS a b.1)
    rw [joinS_length] at this
    simp only [joinAll, sizeAll, List.foldl_cons, List.map_cons, List.sum_cons] at this ⊢
    omega

theorem joinAll_take {a : List NodeD} {r : List (List NodeD × Unit)} {i : Nat} (h : i < r.length) : joinAll a (r.take (i + 1)) = joinS (joinAll a (r.take i)) (r.getD i ([], ())).1 := by
  rw [take_succ' h ([], ())]
  simp [joinAll]
theorem sizeAll_take {r : List (List NodeD × Unit)} {i : Nat} (h : i < r.length) : sizeAll (r.take (i + 1)) = sizeAll (r.take i) + ((r.getD i ([], ())).1.length + 1) := by
  rw [take_succ' h ([], ())]
  simp [sizeAll]
theorem sizeAll_take_le (r : List (List NodeD × Unit)) (i : Nat) : sizeAll (r.take i) ≤ sizeAll r := by
  have : sizeAll r = sizeAll (r.take i) + sizeAll (r.drop i) := by
    unfold sizeAll
    rw [← List.sum_append, ← List.map_append, List.take_append_drop]
  omega

theorem h34 (a : List NodeD) (r : List (List NodeD × Unit)) (ha : Valid a) (hr : ∀ b ∈ r, Valid b.1) (hl : r.length ≤ 15) : (∀ p ∈ pp34 ((a, ()) :: r, ()), p) ∧
    ((a.length + sizeAll r ≤ 16 → ff34 ((a, ()) :: r, ()) = (((joinAll a r, ()), true, ()), ()) ∧ Valid (joinAll a r)) ∧ (¬ a.length + sizeAll r ≤ 16 → (ff34 ((a, ()) :: r, ())).1.2.1 = false)) := by
  refine VT.H_in (P := fun w : W34 => (a.length + sizeAll r ≤ 16 → w = (((joinAll a r, ()), true, ()), ()) ∧ Valid (joinAll a r)) ∧ (¬ a.length + sizeAll r ≤ 16 → w.1.2.1 = false)) ?_
  have hh := ha.high
  obtain ⟨p1, p2⟩ := h43 ((r.length + 1 : Nat) : Int) 1 16
  obtain ⟨t1, t2, t3⟩ := h64 a ha.small (by omega)
  unfold tr34
  simp only [VT.H_pre_iff, VT.H_ret_iff, VT.H_ite_iff, VT.H_step_iff, HL_iff, List.length_cons, p2]
  rw [decide_eq_true (by omega)]
  simp only [Bool.not_true, Bool.false_eq_true, if_false]
  have e0 : ((a, ()) :: r).getD (0 : Int).toNat ([], ()) = (a, ()) := rfl
  have e1 : ((((a, ()) :: r).take ((r.length + 1 : Nat) : Int).toNat).drop ((1 : Int)).toNat) = r := by
    rw [show ((r.length + 1 : Nat) : Int).toNat = r.length + 1 by omega]
    simp
  simp only [e0, e1, t2 ha]
  refine ⟨p1, by omega, by omega, t1, by omega, by omega, by omega, ?_⟩
  refine HL_in (fun k : K34_r5 => k.2.1 = r ∧ k.2.2.1 = r.length ∧ 0 ≤ k.2.2.2.1 ∧ k.2.2.2.1 ≤ r.length ∧
      (a.length + sizeAll (r.take k.2.2.2.1.toNat) ≤ 16 → k.1 = true ∧ k.2.2.2.2.1 = joinAll a (r.take k.2.2.2.1.toNat) ∧ Valid (joinAll a (r.take k.2.2.2.1.toNat))) ∧
      (¬ a.length + sizeAll (r.take k.2.2.2.1.toNat) ≤ 16 → k.1 = false)) (fun k => (r.length - k.2.2.2.1).toNat) ⟨rfl, rfl, by simp, by simp, fun _ => ⟨rfl, rfl, ha⟩, fun h => absurd (by simp [sizeAll]; omega) h⟩ ?_
  rintro ⟨ok, l, n, i, acc, u⟩ ⟨h1, h2, h3, h4, h5, h6⟩
  simp only at h1 h2 h3 h4 h5 h6
  rw [h1, h2]
  unfold lp34_1
  simp only [VT.H_ite_iff, HL_iff, VT.H_step_iff, VT.H_exit_iff, VT.H_ret_iff, VT.H_pre_iff, VT.H_next_iff, decide_eq_true_eq]
  have hle := sizeAll_take_le r i.toNat
  split
  · rename_i hi
    have hi' : i.toNat < r.length := by omega
    refine ⟨h3, hi, ?_⟩
    by_cases hc : a.length + sizeAll (r.take i.toNat) ≤ 16
    · obtain ⟨g1, g2, g3⟩ := h5 hc
      rw [g1]
      simp only [Bool.not_true, Bool.false_eq_true, if_false]
      have hb : Valid (r.getD i.toNat ([], ())).1 := hr _ (getD_mem hi')
      rw [g2]
      obtain ⟨v1, v2, v3⟩ := h65 5 _ _ (.inl rfl) g3 hb
      have e3 : IntKind.wrap .i64 (i + 1) = i + 1 := wrap_i64 (by omega) (by omega)
      rw [e3]
      refine ⟨v1, ⟨trivial, trivial, by omega, by omega, ?_, ?_⟩, by omega⟩
      · rw [show (i + 1).toNat = i.toNat + 1 by omega, sizeAll_take hi', joinAll_take hi']
        intro hx
        have hx' : (joinAll a (r.take i.toNat)).length + (r.getD i.toNat ([], ())).1.length + 1 ≤ 16 := by rw [joinAll_length]; omega
        rw [v2 hx']
        have e2 : (ruleT 5).2.1 = 2 := by decide
        exact ⟨rfl, rfl, (valid_join (n := (5, ((joinAll a (r.take i.toNat)).length : Int) - 1, ((joinAll a (r.take i.toNat)).length : Int) + (r.getD i.toNat ([], ())).1.length - 1, [], ())) g3 hb (by simp [kids, e2]) (show numsOk 5 [] = true by decide) (by simp [axOk, e2])).2 hx'⟩
      · rw [show (i + 1).toNat = i.toNat + 1 by omega, sizeAll_take hi']
        intro hx
        have hx' : ¬ (joinAll a (r.take i.toNat)).length + (r.getD i.toNat ([], ())).1.length + 1 ≤ 16 := by rw [joinAll_length]; omega
        rw [v3 hx']
    · rw [h6 hc]
      simp only [Bool.not_false, if_true]
      exact ⟨fun h => absurd h (by omega), fun _ => trivial⟩
  · have hi : i.toNat = r.length := by omega
    rw [hi, List.take_length] at h5 h6
    refine ⟨fun h => ?_, fun h => h6 h⟩
    obtain ⟨g1, g2, g3⟩ := h5 h
    rw [g1, g2]
    exact ⟨rfl, g3⟩
end Go.Proofs.Ytmlolnaannoifaa

/- Draws of numbers and nodes. -/
namespace Go.Proofs.Ytmlolnaannoifaa

theorem small_range {p : Int → Bool} {lo : Int} {n : Nat} (h : (List.range n).all (fun m => p (lo + m)) = true) {i : Int} (h1 : lo ≤ i) (h2 : i < lo + n) : p i = true := by
  rw [List.all_eq_true] at h
  have := h (i - lo).toNat (List.mem_range.2 (by omega))
  rwa [show lo + ((i - lo).toNat : Int) = i by omega] at this

theorem quarter_fin {i : Int} (h1 : -16 ≤ i) (h2 : i ≤ 16) : fin (quarter i) = true := small_range (p := fun i => fin (quarter i)) (lo := -16) (n := 33) (by decide +kernel) h1 (by omega)
def size2 (x : Nat) : Nat := if fleq .f32 x 0 = true then fop .sub .f32 0 x else x
theorem size2_good {i : Int} (h1 : -16 ≤ i) (h2 : i ≤ 16) : (fin (size2 (quarter i)) && !badS 1 (size2 (quarter i))) = true := small_range (p := fun i => fin (size2 (quarter i)) && !badS 1 (size2 (quarter i))) (lo := -16) (n := 33) (by decide +kernel) h1 (by omega)
theorem quarter_pos {i : Int} (h1 : 1 ≤ i) (h2 : i ≤ 8) : (fin (quarter i) && !badS 2 (quarter i)) = true := small_range (p := fun i => fin (quarter i) && !badS 2 (quarter i)) (lo := 1) (n := 8) (by decide +kernel) h1 (by omega)
def sixteenth (i : Int) : Nat := fop .quo .f32 (FloatKind.nearest .f32 i) 1098907648
theorem sixteenth_fin {i : Int} (h1 : -8 ≤ i) (h2 : i ≤ 8) : fin (sixteenth i) = true := small_range (p := fun i => fin (sixteenth i)) (lo := -8) (n := 17) (by decide +kernel) h1 (by omega)

theorem h150 (x : Nat) : (∀ p ∈ pp150 (x, ()), p) ∧ ff150 (x, ()) = ((size2 x, ()), ()) := by
  refine VT.H_in (P := fun w : W150 => w = ((size2 x, ()), ())) ?_
  unfold tr150 size2
  simp only [VT.H_ite_iff, VT.H_ret_iff]
  split <;> rfl

theorem h119 (k : Int) (h : 0 ≤ k ∧ k ≤ 16) : (∀ p ∈ pp119 (k, ()), p) ∧ ff119 (k, ()) = (((ruleT k).1, ()), ()) := by
  refine VT.H_in (P := fun w : W119 => w = (((ruleT k).1, ()), ())) ?_
  rcases kind_cases h with rfl | rfl | rfl | rfl | rfl | rfl | rfl | rfl | rfl | rfl | rfl | rfl | rfl | rfl | rfl | rfl | rfl <;> exact ⟨trivial, rfl⟩

/-- A number as a kind wants it. -/
def good (k : Int) (x : Nat) : Prop := (fin x && !badS (ruleT k).2.2.2.1 x) = true

/-- What one round of the draws of numbers leaves. -/
def NumPost (k : Int) (B : Int) (c : Int) (out : List Nat) (r : K113_r3 ⊕ W113) : Prop :=
  ∃ x s, r = .inl (c - 1, s.1, s.2.1, s.2.2.1, out ++ [x], ()) ∧ good k x ∧ SrcOK (B + 4) s

theorem h113_step (k : Int) (hk : 0 ≤ k ∧ k ≤ 16) (c : Int) (s0 : SrcD) (s : SrcD) (out : List Nat) (B : Int) (hs : SrcOK B s) (hB : B < 4611686018427380000) (hc : 0 < c) (hc2 : c ≤ 1000) (ho : out.length ≤ 1000) :
    VT.H (lp113_1 pp29 ff29 pp46 ff46 pp119 ff119 pp150 ff150 (s0, k, ()) (c, s.1, s.2.1, s.2.2.1, out, ())) (NumPost k B c out) := by
  obtain ⟨q1, ⟨i, i1, i2, qx⟩, q3⟩ := h29 s B hs (by omega)
  have e1 : IntKind.wrap .i64 (c - 1) = c - 1 := wrap_i64 (by omega) (by omega)
  obtain ⟨v1, v2⟩ := h150 (ff29 (s, ())).1.1
  obtain ⟨w1, w2, w3, w4⟩ := h46 (ff29 (s, ())).2.1 8 (B + 2) q3 (by omega) (by decide)
  obtain ⟨y1, y2, y3, y4⟩ := h46 (ff29 (s, ())).2.1 17 (B + 2) q3 (by omega) (by decide)
  have z1 : IntKind.wrap .i64 (1 + (ff46 ((ff29 (s, ())).2.1, 8, ())).1.1) = 1 + (ff46 ((ff29 (s, ())).2.1, 8, ())).1.1 := wrap_i64 (by omega) (by omega)
  have z2 : IntKind.wrap .i64 ((ff46 ((ff29 (s, ())).2.1, 17, ())).1.1 - 8) = (ff46 ((ff29 (s, ())).2.1, 17, ())).1.1 - 8 := wrap_i64 (by omega) (by omega)
  have hq := quarter_fin i1 i2
  have hz := size2_good i1 i2
  have hp := quarter_pos (i := 1 + (ff46 ((ff29 (s, ())).2.1, 8, ())).1.1) (by omega) (by omega)
  have ht := sixteenth_fin (i := (ff46 ((ff29 (s, ())).2.1, 17, ())).1.1 - 8) (by omega) (by omega)
  rcases kind_cases hk with rfl | rfl | rfl | rfl | rfl | rfl | rfl | rfl | rfl | rfl | rfl | rfl | rfl | rfl | rfl | rfl | rfl
  all_goals
    simp only [lp113_1, VT.H_ite_iff, VT.H_pre_iff, VT.H_step_iff, VT.H_next_iff, decide_eq_true_eq, Int.reduceEq, if_true, if_false, hc, v2, e1, z1, z2]
  all_goals refine ⟨q1, ?_⟩
  all_goals first
    | exact ⟨v1, trivial, by simp; omega, _, (ff29 (s, ())).2.1, rfl, by rw [qx]; exact hz, q3.mono (by omega)⟩
    | exact ⟨w1, trivial, by simp; omega, _, (ff46 ((ff29 (s, ())).2.1, 8, ())).2.1, rfl, hp, w4.mono (by omega)⟩
    | exact ⟨y1, trivial, by simp; omega, _, (ff46 ((ff29 (s, ())).2.1, 17, ())).2.1, rfl, by unfold good; refine Bool.and_eq_true_iff.2 ⟨ht, ?_⟩; simp [badS, ruleT], y4.mono (by omega)⟩
    | exact ⟨trivial, by simp; omega, _, (ff29 (s, ())).2.1, rfl, by unfold good; rw [qx, hq]; simp [badS, ruleT], q3.mono (by omega)⟩
end Go.Proofs.Ytmlolnaannoifaa

/- Draws of shapes. -/
namespace Go.Proofs.Ytmlolnaannoifaa

theorem H_imp {ρ : Type} {t : VT ρ} {P Q : ρ → Prop} (h : VT.H t P) (g : ∀ r, P r → Q r) : VT.H t Q := ⟨h.1, g _ h.2⟩

theorem rule_nums {k : Int} (hk : 0 ≤ k ∧ k ≤ 16) : 0 ≤ (ruleT k).1 ∧ (ruleT k).1 ≤ 4 := by
  rcases kind_cases hk with rfl | rfl | rfl | rfl | rfl | rfl | rfl | rfl | rfl | rfl | rfl | rfl | rfl | rfl | rfl | rfl | rfl <;> decide

theorem good_nums {k : Int} {l : List Nat} (hk : 0 ≤ k ∧ k ≤ 16) (hl : (l.length : Int) = (ruleT k).1) (hg : ∀ x ∈ l, good k x) : numsOk k l = true := by
  unfold numsOk ruleB
  rw [decide_eq_true hk, decide_eq_true hl]
  simp only [Bool.true_and, Bool.and_eq_true, List.all_eq_true, Bool.not_eq_true']
  refine ⟨fun x hx => ?_, ?_⟩
  · have := hg x hx
    unfold good at this
    simp only [Bool.and_eq_true] at this
    exact this.1
  · rw [List.any_eq_false]
    intro x hx
    have := hg x hx
    unfold good at this
    simp only [Bool.and_eq_true, Bool.not_eq_true'] at this
    rw [this.2]; simp

theorem h113 (s : SrcD) (k B : Int) (hk : 0 ≤ k ∧ k ≤ 16) (hs : SrcOK B s) (hB : B < 4611686018427380000 - 20) :
    (∀ p ∈ pp113 (s, k, ()), p) ∧ numsOk k (ff113 (s, k, ())).1.1 = true ∧ SrcOK (B + 16) (ff113 (s, k, ())).2.1 := by
  refine VT.H_in (P := fun w : W113 => numsOk k w.1.1 = true ∧ SrcOK (B + 16) w.2.1) ?_
  obtain ⟨q1, q2⟩ := h119 k hk
  have hn := rule_nums hk
  unfold tr113
  simp only [VT.H_pre_iff, q2]
  refine ⟨q1, ?_⟩
  refine VT.H_loop (fun j : K113_r3 => 0 ≤ j.1 ∧ j.1 + j.2.2.2.2.1.length = (ruleT k).1 ∧ SrcOK (B + 4 * j.2.2.2.2.1.length) (j.2.1, j.2.2.1, j.2.2.2.1, ()) ∧ ∀ x ∈ j.2.2.2.2.1, good k x) (fun j => j.1.toNat) ⟨hn.1, by simp, by simpa using hs, by simp⟩ ?_
  rintro ⟨c, s1, s2, s3, out, u⟩ ⟨h1, h2, h3, h4⟩
  simp only at h1 h2 h3 h4
  by_cases hc : 0 < c
  · have := h113_step k hk c s (s1, s2, s3, ()) out _ h3 (by omega) hc (by omega) (by omega)
    refine H_imp this ?_
    rintro r ⟨x, t, rfl, hx, ht⟩
    refine ⟨⟨by simp only; omega, by simp; omega, ht.mono (by simp; omega), ?_⟩, by simp only; omega⟩
    intro y hy
    rcases List.mem_append.1 hy with h | h
    · exact h4 y h
    · rw [List.mem_singleton.1 h]; exact hx
  · unfold lp113_1
    simp only [VT.H_ite_iff, VT.H_step_iff, VT.H_exit_iff, VT.H_ret_iff, decide_eq_true_eq, if_neg hc]
    exact ⟨trivial, good_nums hk (by omega) h4, h3.mono (by omega)⟩

theorem h112 (k : Int) : (∀ p ∈ pp112 (k, ()), p) ∧ ff112 (k, ()) = ((decide (12 ≤ k ∧ k ≤ 14), ()), ()) := by
  refine VT.H_in (P := fun w : W112 => w = ((decide (12 ≤ k ∧ k ≤ 14), ()), ())) ?_
  have h149 : (∀ p ∈ pp149 (k, 12, 14, ()), p) ∧ ff149 (k, 12, 14, ()) = ((decide (12 ≤ k ∧ k ≤ 14), ()), ()) := by
    refine VT.H_in (P := fun w : W149 => w = ((decide (12 ≤ k ∧ k ≤ 14), ()), ())) ?_
    unfold tr149
    simp only [VT.H_ite_iff, VT.H_ret_iff, decide_eq_true_eq]
    split
    · rename_i h; simp [h]
    · rename_i h; simp [h]
  unfold tr112
  simp only [VT.H_pre_iff, VT.H_ret_iff, h149.2]
  exact ⟨h149.1, trivial⟩

theorem h75 (l : List Int) (hl : l.length ≤ 1000000000000) : (∀ p ∈ pp75 (l, ()), p) ∧ ff75 (l, ()) = ((l, ()), ()) := by
  refine VT.H_in (P := fun w : W75 => w = ((l, ()), ())) ?_
  unfold tr75
  simp only [VT.H_step_iff, VT.H_ret_iff]
  exact ⟨by omega, trivial, trivial⟩
end Go.Proofs.Ytmlolnaannoifaa

/- Draws of nodes. -/
namespace Go.Proofs.Ytmlolnaannoifaa

theorem src_eta (s : SrcD) : (s.1, s.2.1, s.2.2.1, ()) = s := rfl

theorem kids_two {k : Int} (h : 5 ≤ k ∧ k ≤ 8) : (ruleT k).2.1 = 2 := by
  rcases (show k = 5 ∨ k = 6 ∨ k = 7 ∨ k = 8 by omega) with rfl | rfl | rfl | rfl <;> rfl
theorem kids_one {k : Int} (h : 9 ≤ k ∧ k ≤ 16) : (ruleT k).2.1 = 1 ∧ (ruleT k).2.2.1 = decide (12 ≤ k ∧ k ≤ 14) := by
  rcases (show k = 9 ∨ k = 10 ∨ k = 11 ∨ k = 12 ∨ k = 13 ∨ k = 14 ∨ k = 15 ∨ k = 16 by omega) with rfl | rfl | rfl | rfl | rfl | rfl | rfl | rfl <;> exact ⟨rfl, by decide⟩
theorem kids_none {k : Int} (h : 0 ≤ k ∧ k ≤ 4) : (ruleT k).2.1 = 0 := by
  rcases (show k = 0 ∨ k = 1 ∨ k = 2 ∨ k = 3 ∨ k = 4 by omega) with rfl | rfl | rfl | rfl | rfl <;> rfl

theorem drop_one (l : List Int) (h : 1 ≤ l.length) : l.drop (l.length - 1) = [l.getD (l.length - 1) 0] := by
  rw [List.drop_eq_getElem_cons (by omega), List.drop_eq_nil_of_le (by omega)]
  simp [List.getD, show l.length - 1 < l.length by omega]
theorem drop_two (l : List Int) (h : 2 ≤ l.length) : l.drop (l.length - 2) = [l.getD (l.length - 2) 0, l.getD (l.length - 1) 0] := by
  rw [List.drop_eq_getElem_cons (by omega), show l.length - 2 + 1 = l.length - 1 by omega, drop_one l (by omega)]
  simp [List.getD, show l.length - 2 < l.length by omega]

/-- A drawn node takes the last free ones. -/
def NodePost (free : List Int) (B : Int) (w : W74) : Prop :=
  numsOk w.1.1.1 w.1.1.2.2.2.1 = true ∧ axOk w.1.1 = true ∧ 0 ≤ w.1.2.1 ∧ w.1.2.1.toNat ≤ free.length ∧ w.1.2.1 ≤ 2 ∧ kids w.1.1 = free.drop (free.length - w.1.2.1.toNat) ∧ SrcOK (B + 40) w.2.1

theorem post_two {free : List Int} {B k : Int} {s t : SrcD} {l : List Nat} (hk : 5 ≤ k ∧ k ≤ 8) (hf : 2 ≤ free.length) (hl : numsOk k l = true) (ht : SrcOK (B + 40) t) :
    NodePost free B (((k, free.getD (free.length - 2) 0, free.getD (free.length - 1) 0, l, ()), 2, ()), (t, ())) := by
  refine ⟨hl, ?_, show (0 : Int) ≤ 2 by decide, by simpa using hf, show (2 : Int) ≤ 2 by decide, ?_, ht⟩
  · unfold axOk; simp [kids_two hk]
  · show kids _ = free.drop (free.length - 2)
    rw [drop_two free hf]; unfold kids; simp [kids_two hk]
theorem post_one {free : List Int} {B k a : Int} {t : SrcD} {l : List Nat} (hk : 9 ≤ k ∧ k ≤ 16) (ha : a = 0 ∨ (12 ≤ k ∧ k ≤ 14) ∧ 0 ≤ a ∧ a ≤ 2) (hf : 1 ≤ free.length) (hl : numsOk k l = true) (ht : SrcOK (B + 40) t) :
    NodePost free B (((k, free.getD (free.length - 1) 0, a, l, ()), 1, ()), (t, ())) := by
  obtain ⟨e1, e2⟩ := kids_one hk
  refine ⟨hl, ?_, show (0 : Int) ≤ 1 by decide, by simpa using hf, show (1 : Int) ≤ 2 by decide, ?_, ht⟩
  · unfold axOk; simp only [e1, e2]
    rcases ha with rfl | ⟨h1, h2⟩
    · simp
    · simp [h1, h2]
  · show kids _ = free.drop (free.length - 1)
    rw [drop_one free hf]; unfold kids; simp [e1]
theorem post_none {free : List Int} {B k : Int} {t : SrcD} {l : List Nat} (hk : 0 ≤ k ∧ k ≤ 4) (hl : numsOk k l = true) (ht : SrcOK (B + 40) t) :
    NodePost free B (((k, 0, 0, l, ()), 0, ()), (t, ())) := by
  refine ⟨hl, ?_, show (0 : Int) ≤ 0 by decide, Nat.zero_le _, show (0 : Int) ≤ 2 by decide, ?_, ht⟩
  · unfold axOk; simp
  · show kids _ = free.drop (free.length - 0)
    rw [Nat.sub_zero, List.drop_length]; unfold kids; simp [kids_none hk]

theorem h74 (s : SrcD) (free : List Int) (B : Int) (hs : SrcOK B s) (hB : B < 4611686018427380000 - 60) (hf : free.length ≤ 1000) :
    (∀ p ∈ pp74 (s, free, ()), p) ∧ NodePost free B (ff74 (s, free, ())) := by
  refine VT.H_in (P := NodePost free B) ?_
  have pk := fun (t : SrcD) (n C : Int) (ht : SrcOK C t) (hC : C < 4611686018427387000) (hn : n ≤ 100) => h46 t n C ht hC (by omega)
  obtain ⟨a1, a2, a3, a4⟩ := pk s 5 B hs (by omega) (by decide)
  -- the last part, once for all
  have leaf : ∀ (t : SrcD), SrcOK (B + 6) t → (∀ p ∈ pp113 (t, (ff46 (s, 5, ())).1.1, ()), p) ∧ NodePost free B ((((ff46 (s, 5, ())).1.1, 0, 0, (ff113 (t, (ff46 (s, 5, ())).1.1, ())).1.1, ()), 0, ()), ((ff113 (t, (ff46 (s, 5, ())).1.1, ())).2.1, ())) := by
    intro t ht
    obtain ⟨b1, b2, b3⟩ := h113 t (ff46 (s, 5, ())).1.1 (B + 6) (by omega) ht (by omega)
    exact ⟨b1, post_none (by omega) b2 (b3.mono (by omega))⟩
  have e1 : (ff46 (s, 5, ())).1.1 < 5 := by omega
  have wrapped : ∀ (t : SrcD), SrcOK (B + 6) t → 1 ≤ free.length → ∃ k, k = IntKind.wrap .i64 (9 + (ff46 (t, 8, ())).1.1) ∧ 9 ≤ k ∧ k ≤ 16 ∧ (∀ p ∈ pp46 (t, 8, ()), p) ∧ SrcOK (B + 8) (ff46 (t, 8, ())).2.1 := by
    intro t ht _
    obtain ⟨b1, b2, b3, b4⟩ := pk t 8 (B + 6) ht (by omega) (by decide)
    exact ⟨_, rfl, by rw [wrap_i64 (by omega) (by omega)]; omega, by rw [wrap_i64 (by omega) (by omega)]; omega, b1, b4.mono (by omega)⟩
  have one : ∀ (t : SrcD), SrcOK (B + 6) t → 1 ≤ free.length → (∀ p ∈ pp46 (t, 8, ()), p) ∧
      (0 ≤ IntKind.wrap .i64 ((free.length : Int) - 1)) ∧ (IntKind.wrap .i64 ((free.length : Int) - 1) < free.length) ∧
      (∀ p ∈ pp112 (IntKind.wrap .i64 (9 + (ff46 (t, 8, ())).1.1), ()), p) ∧
      (if (ff112 (IntKind.wrap .i64 (9 + (ff46 (t, 8, ())).1.1), ())).1.1 = true then
        (∀ p ∈ pp46 ((ff46 (t, 8, ())).2.1, 3, ()), p) ∧
        (∀ p ∈ pp113 ((ff46 ((ff46 (t, 8, ())).2.1, 3, ())).2.1, IntKind.wrap .i64 (9 + (ff46 (t, 8, ())).1.1), ()), p) ∧
        NodePost free B (((IntKind.wrap .i64 (9 + (ff46 (t, 8, ())).1.1), free.getD (IntKind.wrap .i64 ((free.length : Int) - 1)).toNat 0, (ff46 ((ff46 (t, 8, ())).2.1, 3, ())).1.1, (ff113 ((ff46 ((ff46 (t, 8, ())).2.1, 3, ())).2.1, IntKind.wrap .i64 (9 + (ff46 (t, 8, ())).1.1), ())).1.1, ()), 1, ()),
          ((ff113 ((ff46 ((ff46 (t, 8, ())).2.1, 3, ())).2.1, IntKind.wrap .i64 (9 + (ff46 (t, 8, ())).1.1), ())).2.1, ()))
      else
        (∀ p ∈ pp113 ((ff46 (t, 8, ())).2.1, IntKind.wrap .i64 (9 + (ff46 (t, 8, ())).1.1), ()), p) ∧
        NodePost free B (((IntKind.wrap .i64 (9 + (ff46 (t, 8, ())).1.1), free.getD (IntKind.wrap .i64 ((free.length : Int) - 1)).toNat 0, 0, (ff113 ((ff46 (t, 8, ())).2.1, IntKind.wrap .i64 (9 + (ff46 (t, 8, ())).1.1), ())).1.1, ()), 1, ()),
          ((ff113 ((ff46 (t, 8, ())).2.1, IntKind.wrap .i64 (9 + (ff46 (t, 8, ())).1.1), ())).2.1, ()))) := by
    intro t ht hfl
    obtain ⟨k, hk, k1, k2, k3, k4⟩ := wrapped t ht hfl
    rw [← hk]
    have e2 : IntKind.wrap .i64 ((free.length : Int) - 1) = (free.length : Int) - 1 := wrap_i64 (by omega) (by omega)
    obtain ⟨c1, c2⟩ := h112 k
    rw [e2, c2, show ((free.length : Int) - 1).toNat = free.length - 1 by omega]
    refine ⟨k3, by omega, by omega, c1, ?_⟩
    by_cases hx : 12 ≤ k ∧ k ≤ 14
    · simp only [decide_eq_true hx, if_true]
      obtain ⟨d1, d2, d3, d4⟩ := pk (ff46 (t, 8, ())).2.1 3 (B + 8) k4 (by omega) (by decide)
      obtain ⟨f1, f2, f3⟩ := h113 (ff46 ((ff46 (t, 8, ())).2.1, 3, ())).2.1 k (B + 10) (by omega) (d4.mono (by omega)) (by omega)
      exact ⟨d1, f1, post_one ⟨k1, k2⟩ (.inr ⟨hx, d2, by omega⟩) hfl f2 (f3.mono (by omega))⟩
    · simp only [decide_eq_false hx, Bool.false_eq_true, if_false]
      obtain ⟨f1, f2, f3⟩ := h113 (ff46 (t, 8, ())).2.1 k (B + 8) (by omega) k4 (by omega)
      exact ⟨f1, post_one ⟨k1, k2⟩ (.inl rfl) hfl f2 (f3.mono (by omega))⟩
  unfold tr74
  simp only [VT.H_ite_iff, VT.H_ret_iff, VT.H_pre_iff, VT.H_step_iff, decide_eq_true_eq, src_eta]
  refine ⟨a1, ?_⟩
  split
  · rename_i hf2
    obtain ⟨g1, g2⟩ := h111 (ff46 (s, 5, ())).2.1 2 (B + 2) a4 (by omega) (by decide)
    refine ⟨g1, ?_⟩
    split
    · obtain ⟨b1, b2, b3, b4⟩ := pk (ff111 ((ff46 (s, 5, ())).2.1, 2, ())).2.1 4 (B + 2 + 2) g2 (by omega) (by decide)
      have e1 : IntKind.wrap .i64 ((free.length : Int) - 1) = (free.length : Int) - 1 := wrap_i64 (by omega) (by omega)
      have e2 : IntKind.wrap .i64 ((free.length : Int) - 2) = (free.length : Int) - 2 := wrap_i64 (by omega) (by omega)
      have e3 : IntKind.wrap .i64 (5 + (ff46 ((ff111 ((ff46 (s, 5, ())).2.1, 2, ())).2.1, 4, ())).1.1) = 5 + (ff46 ((ff111 ((ff46 (s, 5, ())).2.1, 2, ())).2.1, 4, ())).1.1 := wrap_i64 (by omega) (by omega)
      rw [e1, e2, show ((free.length : Int) - 1).toNat = free.length - 1 by omega, show ((free.length : Int) - 2).toNat = free.length - 2 by omega]
      refine ⟨b1, by omega, by omega, by omega, by omega, ?_⟩
      obtain ⟨f1, f2, f3⟩ := h113 (ff46 ((ff111 ((ff46 (s, 5, ())).2.1, 2, ())).2.1, 4, ())).2.1 _ _ (show 0 ≤ IntKind.wrap .i64 (5 + (ff46 ((ff111 ((ff46 (s, 5, ())).2.1, 2, ())).2.1, 4, ())).1.1) ∧ _ by rw [e3]; omega) b4 (by omega)
      exact ⟨f1, post_two (s := s) (by rw [e3]; omega) (by omega) f2 (f3.mono (by omega))⟩
    · rw [if_pos (show (1 : Int) ≤ free.length by omega)]
      obtain ⟨g3, g4⟩ := h111 (ff111 ((ff46 (s, 5, ())).2.1, 2, ())).2.1 2 (B + 2 + 2) g2 (by omega) (by decide)
      refine ⟨g3, ?_⟩
      split
      · exact one _ (g4.mono (by omega)) (by omega)
      · exact leaf _ (g4.mono (by omega))
  · split
    · obtain ⟨g1, g2⟩ := h111 (ff46 (s, 5, ())).2.1 2 (B + 2) a4 (by omega) (by decide)
      refine ⟨g1, ?_⟩
      split
      · exact one _ (g2.mono (by omega)) (by omega)
      · exact leaf _ (g2.mono (by omega))
    · exact leaf _ (a4.mono (by omega))
end Go.Proofs.Ytmlolnaannoifaa

/- Draws of whole shapes. -/
namespace Go.Proofs.Ytmlolnaannoifaa

/-- Nodes with the ones that still want a parent. -/
structure Grown (out : List NodeD) (free : List Int) : Prop where
  nodes : nodesOk out
  range : ∀ f ∈ free, 0 ≤ f ∧ f < out.length
  nodup : free.Nodup
  count : ∀ i, i < out.length → (refs out).count (i : Int) = if (i : Int) ∈ free then 0 else 1
  last : out = [] ∨ ∃ l, free = l ++ [(out.length : Int) - 1]

theorem Grown.empty : Grown [] [] := ⟨fun i hi => by simp at hi, by simp, List.nodup_nil, fun i hi => by simp at hi, .inl rfl⟩

theorem Grown.add {out : List NodeD} {free : List Int} (h : Grown out free) (n : NodeD) (m : Nat) (hm : m ≤ free.length) (hn : numsOk n.1 n.2.2.2.1 = true) (hx : axOk n = true) (hk : kids n = free.drop m) :
    Grown (out ++ [n]) (free.take m ++ [(out.length : Int)]) := by
  have hsplit : free = free.take m ++ free.drop m := (List.take_append_drop m free).symm
  have hnd := h.nodup
  rw [hsplit, List.nodup_append] at hnd
  obtain ⟨n1, n2, n3⟩ := hnd
  have hrt : ∀ f ∈ free.take m, 0 ≤ f ∧ f < out.length := fun f hf => h.range f (List.mem_of_mem_take hf)
  have hrd : ∀ f ∈ free.drop m, 0 ≤ f ∧ f < out.length := fun f hf => h.range f (List.mem_of_mem_drop hf)
  refine ⟨nodesOk_append.2 ⟨h.nodes, fun i hi => ?_⟩, ?_, ?_, fun i hi => ?_, .inr ⟨free.take m, by simp⟩⟩
  · have : i = 0 := by simpa using hi
    subst this
    refine ⟨hn, hx, fun c hc => ?_⟩
    have hc' : c ∈ kids n := hc
    rw [hk] at hc'
    have := hrd c hc'
    simp only [Nat.add_zero]
    omega
  · intro f hf
    rcases List.mem_append.1 hf with h1 | h1
    · have := hrt f h1; simp; omega
    · rw [List.mem_singleton.1 h1]; simp; omega
  · rw [List.nodup_append]
    refine ⟨n1, by simp, fun a ha b hb => ?_⟩
    rw [List.mem_singleton.1 hb]
    have := hrt a ha
    omega
  · rw [refs_append, refs_one, hk, List.count_append]
    by_cases hi' : i < out.length
    · rw [h.count i hi']
      by_cases h1 : (i : Int) ∈ free.take m
      · rw [if_pos (List.mem_of_mem_take h1), if_pos (List.mem_append.2 (.inl h1)), List.count_eq_zero.2 (fun h2 => n3 _ h1 _ h2 rfl)]
      · have h3 : ¬ (i : Int) ∈ free.take m ++ [(out.length : Int)] := by
          intro h4
          rcases List.mem_append.1 h4 with h5 | h5
          · exact h1 h5
          · have := List.mem_singleton.1 h5; omega
        rw [if_neg h3]
        by_cases h2 : (i : Int) ∈ free.drop m
        · rw [if_pos (List.mem_of_mem_drop h2), n2.count, if_pos h2]
        · have : ¬ (i : Int) ∈ free := by rw [hsplit]; simp only [List.mem_append]; exact fun h => h.elim h1 h2
          rw [if_neg this, List.count_eq_zero.2 h2]
    · have hie : i = out.length := by simp at hi; omega
      subst hie
      rw [if_pos (by simp), count_none (fun c hc => by have := refs_all h.nodes c hc; omega), count_none (fun c hc => by have := hrd c hc; omega)]

theorem Grown.done {out : List NodeD} {free : List Int} (h : Grown out free) (h1 : 1 ≤ out.length) (h2 : out.length ≤ 16) (hf : free.length ≤ 1) : Valid out := by
  refine valid_of h1 h2 h.nodes fun i hi => ?_
  have hl : free = [(out.length : Int) - 1] := by
    rcases h.last with h3 | ⟨l, h3⟩
    · rw [h3] at h1; simp at h1
    · rw [h3] at hf
      simp at hf
      rw [h3, hf]; rfl
  rw [h.count i hi, hl]
  by_cases hie : i + 1 = out.length
  · rw [if_pos hie, if_pos (by simp; omega)]
  · rw [if_neg hie, if_neg (by simp; omega)]

theorem Grown.some {out : List NodeD} {free : List Int} (h : Grown out free) (h1 : 1 ≤ out.length) : 1 ≤ free.length := by
  rcases h.last with h3 | ⟨l, h3⟩
  · rw [h3] at h1; simp at h1
  · rw [h3]; simp

theorem h40 (s : SrcD) (B : Int) (hs : SrcOK B s) (hB : B < 4611686018427380000 - 600) :
    (∀ p ∈ pp40 (s, ()), p) ∧ Valid (ff40 (s, ())).1.1.1 ∧ (ff40 (s, ())).1.1.1.length ≤ 13 ∧ SrcOK (B + 400) (ff40 (s, ())).2.1 := by
  refine VT.H_in (P := fun w : W40 => Valid w.1.1.1 ∧ w.1.1.1.length ≤ 13 ∧ SrcOK (B + 400) w.2.1) ?_
  obtain ⟨a1, a2, a3, a4⟩ := h46 s 7 B hs (by omega) (by decide)
  have e0 : IntKind.wrap .i64 (1 + (ff46 (s, 7, ())).1.1) = 1 + (ff46 (s, 7, ())).1.1 := wrap_i64 (by omega) (by omega)
  unfold tr40
  simp only [VT.H_pre_iff, HL_iff]
  refine ⟨a1, ?_⟩
  rw [e0]
  refine HL_in (fun k : K40_r4 => 0 ≤ k.1 ∧ 1 ≤ k.1 + k.2.2.2.2.2.1.length ∧ k.1 + k.2.2.2.2.2.1.length ≤ 7 ∧ k.2.2.2.2.1.length ≤ k.2.2.2.2.2.1.length ∧ SrcOK (B + 2 + 40 * k.2.2.2.2.2.1.length) (k.2.1, k.2.2.1, k.2.2.2.1, ()) ∧ Grown k.2.2.2.2.2.1 k.2.2.2.2.1) (fun k => k.1.toNat)
    ⟨by simp only; omega, by simp; omega, by simp; omega, by simp, by simpa using a4, Grown.empty⟩ ?_
  rintro ⟨c, s1, s2, s3, free, out, u⟩ ⟨h1, h2, h3, h4, h5, h6⟩
  simp only at h1 h2 h3 h4 h5 h6
  unfold lp40_2
  simp only [VT.H_ite_iff, HL_iff, VT.H_step_iff, VT.H_exit_iff, VT.H_ret_iff, VT.H_pre_iff, VT.H_next_iff, decide_eq_true_eq, src_eta]
  split
  · rename_i hc
    obtain ⟨b1, b2, b3, b4, b5, b6, b7, b8⟩ := h74 (s1, s2, s3, ()) free _ h5 (by omega) (by omega)
    generalize ff74 ((s1, s2, s3, ()), free, ()) = w at b2 b3 b4 b5 b6 b7 b8
    have e1 : IntKind.wrap .i64 ((free.length : Int) - w.1.2.1) = (free.length : Int) - w.1.2.1 := wrap_i64 (by omega) (by omega)
    have e2 : IntKind.wrap .i64 (c - 1) = c - 1 := wrap_i64 (by omega) (by omega)
    rw [e1, e2]
    simp only [Int.toNat_zero, List.drop_zero]
    have hm : ((free.length : Int) - w.1.2.1).toNat = free.length - w.1.2.1.toNat := by omega
    obtain ⟨d1, d2⟩ := h75 (free.take ((free.length : Int) - w.1.2.1).toNat) (by simp; omega)
    rw [d2]
    refine ⟨trivial, b1, trivial, by decide, by omega, by omega, d1, trivial, by simp; omega, trivial, by simp; omega, ⟨by omega, by simp; omega, by simp; omega, by simp; omega, b8.mono (by simp; omega), ?_⟩, by omega⟩
    rw [hm]
    exact h6.add w.1.1 _ (by omega) b2 b3 b7
  · refine HL_in (fun k : K40_r9 => 1 ≤ k.2.2.2.1.length ∧ k.2.2.2.1.length + k.2.2.2.2.1.length ≤ 14 ∧ SrcOK (B + 300 + 2 * k.2.2.2.1.length) (k.1, k.2.1, k.2.2.1, ()) ∧ Grown k.2.2.2.1 k.2.2.2.2.1) (fun k => k.2.2.2.2.1.length)
      ⟨by simp only; omega, by simp only; omega, h5.mono (by simp only; omega), h6⟩ ?_
    clear h1 h2 h3 h4 h5 h6
    rename_i hc0
    clear hc0
    rintro ⟨s1, s2, s3, out, free, u⟩ ⟨h1, h2, h3, h4⟩
    simp only at h1 h2 h3 h4
    have h5 := h4.some h1
    unfold lp40_1
    simp only [VT.H_ite_iff, HL_iff, VT.H_step_iff, VT.H_exit_iff, VT.H_ret_iff, VT.H_pre_iff, VT.H_next_iff, decide_eq_true_eq, src_eta]
    split
    · rename_i hc
      obtain ⟨b1, b2, b3, b4⟩ := h46 (s1, s2, s3, ()) 3 _ h3 (by omega) (by decide)
      generalize ff46 ((s1, s2, s3, ()), 3, ()) = w at b2 b3 b4
      have e1 : IntKind.wrap .i64 ((free.length : Int) - 2) = (free.length : Int) - 2 := wrap_i64 (by omega) (by omega)
      have e2 : IntKind.wrap .i64 ((free.length : Int) - 1) = (free.length : Int) - 1 := wrap_i64 (by omega) (by omega)
      have e3 : IntKind.wrap .i64 (5 + w.1.1) = 5 + w.1.1 := wrap_i64 (by omega) (by omega)
      rw [e1, e2, e3]
      simp only [Int.toNat_zero, List.drop_zero]
      have hm : ((free.length : Int) - 2).toNat = free.length - 2 := by omega
      have hm1 : ((free.length : Int) - 1).toNat = free.length - 1 := by omega
      obtain ⟨d1, d2⟩ := h75 (free.take ((free.length : Int) - 2).toNat) (by simp; omega)
      rw [d2, hm, hm1]
      rw [hm] at d1
      refine ⟨b1, trivial, by omega, by omega, trivial, by omega, by omega, trivial, by decide, by omega, by omega, d1, trivial, by simp; omega, trivial, by simp; omega, ⟨by simp, by simp; omega, b4.mono (by simp; omega), ?_⟩, by simp; omega⟩
      have hk : (5 : Int) ≤ 5 + w.1.1 ∧ 5 + w.1.1 ≤ 7 := by omega
      refine h4.add _ _ (by omega) ?_ ?_ ?_
      · exact good_nums (by omega) (by rcases (show w.1.1 = 0 ∨ w.1.1 = 1 ∨ w.1.1 = 2 by omega) with h | h | h <;> rw [h] <;> rfl) (by simp)
      · unfold axOk; simp [kids_two (show 5 ≤ 5 + w.1.1 ∧ 5 + w.1.1 ≤ 8 by omega)]
      · rw [drop_two free (by omega)]; unfold kids; simp [kids_two (show 5 ≤ 5 + w.1.1 ∧ 5 + w.1.1 ≤ 8 by omega)]
    · exact ⟨trivial, h4.done h1 (by omega) (by omega), by omega, h3.mono (by omega)⟩
end Go.Proofs.Ytmlolnaannoifaa

/- Draws of keys and things. -/
namespace Go.Proofs.Ytmlolnaannoifaa

abbrev KeyD := Int × Nat × Nat × Nat × Unit
abbrev ThingD := ByteArray × List NodeD × List KeyD × Unit
abbrev dk : KeyD := (0, 0, 0, 0, ())

/-- The next key's time, or the one to come. -/
def nextAt (ks : List KeyD) (i : Nat) (at_ : Int) : Int := if i + 1 < ks.length then (ks.getD (i + 1) dk).1 else at_
def KeyIn (k : KeyD) : Prop := 0 ≤ k.1 ∧ k.1 ≤ 100 ∧ SmallV k.2
/-- Keys as they are drawn. -/
structure KeysOK (ks : List KeyD) : Prop where
  low : 1 ≤ ks.length
  high : ks.length ≤ 4
  each : ∀ k ∈ ks, KeyIn k
  rise : ∀ i, i + 1 < ks.length → (ks.getD i dk).1 < (ks.getD (i + 1) dk).1 ∧ (ks.getD (i + 1) dk).1 ≤ (ks.getD i dk).1 + 8

theorem getD_snoc_lt {α : Type} {l : List α} {x d : α} {i : Nat} (h : i < l.length) : (l ++ [x]).getD i d = l.getD i d := by simp [List.getD, List.getElem?_append_left h]
theorem getD_snoc_eq {α : Type} {l : List α} {x d : α} : (l ++ [x]).getD l.length d = x := by simp [List.getD]

theorem h100_add {out : List KeyD} {at_ n : Int} {k : KeyD} (hr : ∀ i, i < out.length → (out.getD i dk).1 < nextAt out i at_ ∧ nextAt out i at_ ≤ (out.getD i dk).1 + 8) (hk : k.1 = at_) (hn : at_ < n ∧ n ≤ at_ + 8) :
    ∀ i, i < (out ++ [k]).length → ((out ++ [k]).getD i dk).1 < nextAt (out ++ [k]) i n ∧ nextAt (out ++ [k]) i n ≤ ((out ++ [k]).getD i dk).1 + 8 := by
  intro i hi
  have hi' : i < out.length + 1 := by simpa using hi
  by_cases h : i < out.length
  · have := hr i h
    unfold nextAt at this ⊢
    rw [getD_snoc_lt h]
    rw [if_pos (by simp; omega)]
    by_cases h2 : i + 1 < out.length
    · rw [getD_snoc_lt h2]
      rwa [if_pos h2] at this
    · rw [show i + 1 = out.length by omega, getD_snoc_eq, hk]
      rwa [if_neg h2] at this
  · have : i = out.length := by omega
    subst this
    unfold nextAt
    rw [getD_snoc_eq, if_neg (by simp), hk]
    exact ⟨hn.1, hn.2⟩

theorem h100 (s : SrcD) (B : Int) (hs : SrcOK B s) (hB : B < 4611686018427380000 - 600) :
    (∀ p ∈ pp100 (s, ()), p) ∧ KeysOK (ff100 (s, ())).1.1 ∧ SrcOK (B + 50) (ff100 (s, ())).2.1 := by
  refine VT.H_in (P := fun w : W100 => KeysOK w.1.1 ∧ SrcOK (B + 50) w.2.1) ?_
  obtain ⟨a1, a2, a3, a4⟩ := h46 s 4 B hs (by omega) (by decide)
  obtain ⟨b1, b2, b3, b4⟩ := h46 (ff46 (s, 4, ())).2.1 4 (B + 2) a4 (by omega) (by decide)
  have e0 : IntKind.wrap .i64 (1 + (ff46 ((ff46 (s, 4, ())).2.1, 4, ())).1.1) = 1 + (ff46 ((ff46 (s, 4, ())).2.1, 4, ())).1.1 := wrap_i64 (by omega) (by omega)
  unfold tr100
  simp only [VT.H_pre_iff, HL_iff, src_eta, e0]
  refine ⟨a1, b1, ?_⟩
  refine HL_in (fun k : K100_r4 => 0 ≤ k.2.1 ∧ 1 ≤ k.2.1 + k.2.2.2.2.2.1.length ∧ k.2.1 + k.2.2.2.2.2.1.length ≤ 4 ∧ 0 ≤ k.1 ∧ k.1 ≤ 3 + 8 * k.2.2.2.2.2.1.length ∧ SrcOK (B + 4 + 10 * k.2.2.2.2.2.1.length) (k.2.2.1, k.2.2.2.1, k.2.2.2.2.1, ()) ∧
      (∀ x ∈ k.2.2.2.2.2.1, KeyIn x) ∧ ∀ i, i < k.2.2.2.2.2.1.length → (k.2.2.2.2.2.1.getD i dk).1 < nextAt k.2.2.2.2.2.1 i k.1 ∧ nextAt k.2.2.2.2.2.1 i k.1 ≤ (k.2.2.2.2.2.1.getD i dk).1 + 8) (fun k => k.2.1.toNat)
    ⟨by simp only; omega, by simp; omega, by simp; omega, by simp only; omega, by simp; omega, b4.mono (by simp; omega), by simp, fun i hi => by simp at hi⟩ ?_
  rintro ⟨at_, c, s1, s2, s3, out, u⟩ ⟨h1, h2, h3, h4, h5, h6, h7, h8⟩
  simp only at h1 h2 h3 h4 h5 h6 h7 h8
  unfold lp100_1
  simp only [VT.H_ite_iff, HL_iff, VT.H_step_iff, VT.H_exit_iff, VT.H_ret_iff, VT.H_pre_iff, VT.H_next_iff, decide_eq_true_eq, src_eta]
  split
  · rename_i hc
    obtain ⟨p1, p2, p3⟩ := h29 (s1, s2, s3, ()) _ h6 (by omega)
    obtain ⟨q1, q2, q3⟩ := h29 _ _ p3 (by omega)
    obtain ⟨r1, r2, r3⟩ := h29 _ _ q3 (by omega)
    generalize hA : ff29 ((s1, s2, s3, ()), ()) = A at *
    generalize hC : ff29 (A.2.1, ()) = C at *
    generalize hD : ff29 (C.2.1, ()) = D at *
    have e2 : IntKind.wrap .i64 (c - 1) = c - 1 := wrap_i64 (by omega) (by omega)
    have fin : ∀ (t : SrcD) (k : KeyD), k.1 = at_ → SmallV k.2 → SrcOK (B + 4 + 10 * out.length + 8) t →
        (∀ p ∈ pp46 (t, 8, ()), p) ∧ ((0 ≤ c - 1 ∧ 1 ≤ c - 1 + (out ++ [k]).length ∧ c - 1 + (out ++ [k]).length ≤ 4 ∧ 0 ≤ IntKind.wrap .i64 (at_ + IntKind.wrap .i64 (1 + (ff46 (t, 8, ())).1.1)) ∧ IntKind.wrap .i64 (at_ + IntKind.wrap .i64 (1 + (ff46 (t, 8, ())).1.1)) ≤ 3 + 8 * (out ++ [k]).length ∧ SrcOK (B + 4 + 10 * (out ++ [k]).length) ((ff46 (t, 8, ())).2.1) ∧
        (∀ x ∈ out ++ [k], KeyIn x) ∧ ∀ i, i < (out ++ [k]).length → ((out ++ [k]).getD i dk).1 < nextAt (out ++ [k]) i (IntKind.wrap .i64 (at_ + IntKind.wrap .i64 (1 + (ff46 (t, 8, ())).1.1))) ∧ nextAt (out ++ [k]) i (IntKind.wrap .i64 (at_ + IntKind.wrap .i64 (1 + (ff46 (t, 8, ())).1.1))) ≤ ((out ++ [k]).getD i dk).1 + 8) ∧ (c - 1).toNat < c.toNat) := by
      intro t k hk hv ht
      obtain ⟨g1, g2, g3, g4⟩ := h46 t 8 _ ht (by omega) (by decide)
      have e3 : IntKind.wrap .i64 (1 + (ff46 (t, 8, ())).1.1) = 1 + (ff46 (t, 8, ())).1.1 := wrap_i64 (by omega) (by omega)
      have e4 : IntKind.wrap .i64 (at_ + (1 + (ff46 (t, 8, ())).1.1)) = at_ + (1 + (ff46 (t, 8, ())).1.1) := wrap_i64 (by omega) (by omega)
      rw [e3, e4]
      refine ⟨g1, ⟨by omega, by simp; omega, by simp; omega, by omega, by simp; omega, g4.mono (by simp; omega), ?_, h100_add h8 hk (by omega)⟩, by omega⟩
      intro x hx
      rcases List.mem_append.1 hx with h | h
      · exact h7 x h
      · rw [List.mem_singleton.1 h]; exact ⟨by omega, by omega, hv⟩
    rw [e2]
    refine ⟨p1, q1, r1, ?_⟩
    split
    · rename_i hlen
      obtain ⟨t1, t2⟩ := h111 _ 3 _ r3 (by omega) (by decide)
      refine ⟨t1, ?_⟩
      split
      · have e1 : IntKind.wrap .i64 ((out.length : Int) - 1) = (out.length : Int) - 1 := wrap_i64 (by omega) (by omega)
        rw [e1]
        have hm : out.getD ((out.length : Int) - 1).toNat (0, 0, 0, 0, ()) ∈ out := getD_mem (by omega)
        refine ⟨trivial, by omega, by omega, trivial, by simp; omega, ?_⟩
        exact fin _ _ rfl (h7 _ hm).2.2 (t2.mono (by omega))
      · refine ⟨trivial, by simp; omega, ?_⟩
        exact fin _ _ rfl ⟨p2, q2, r2⟩ (t2.mono (by omega))
    · refine ⟨trivial, by simp; omega, ?_⟩
      exact fin _ _ rfl ⟨p2, q2, r2⟩ (r3.mono (by omega))
  · refine ⟨trivial, ⟨by omega, by omega, h7, fun i hi => ?_⟩, h6.mono (by omega)⟩
    have := h8 i (by omega)
    unfold nextAt at this
    rwa [if_pos hi] at this

def names : List ByteArray := [⟨#[97]⟩, ⟨#[98]⟩, ⟨#[98, 97, 108, 108]⟩, ⟨#[99]⟩, ⟨#[99, 117, 112]⟩, ⟨#[100]⟩, ⟨#[101]⟩, ⟨#[116, 97, 98, 108, 101]⟩]
/-- A thing as it is drawn. -/
structure ThingOK (t : ThingD) : Prop where
  name : t.1 ∈ names
  shape : Valid t.2.1
  size : t.2.1.length ≤ 13
  keys : KeysOK t.2.2.1

theorem h58 (s : SrcD) (B : Int) (hs : SrcOK B s) (hB : B < 4611686018427380000 - 2000) :
    (∀ p ∈ pp58 (s, ()), p) ∧ ThingOK (ff58 (s, ())).1.1 ∧ SrcOK (B + 500) (ff58 (s, ())).2.1 := by
  refine VT.H_in (P := fun w : W58 => ThingOK w.1.1 ∧ SrcOK (B + 500) w.2.1) ?_
  obtain ⟨a1, a2, a3⟩ := h99 s names B hs (by omega) (by decide) (by decide)
  obtain ⟨b1, b2, b3, b4⟩ := h40 (ff99 (s, names, ())).2.1 _ a3 (by omega)
  obtain ⟨c1, c2, c3⟩ := h100 _ _ b4 (by omega)
  unfold tr58
  simp only [VT.H_pre_iff, VT.H_ret_iff, src_eta]
  exact ⟨a1, b1, c1, ⟨a2, b2, b3, c2⟩, c3.mono (by omega)⟩
end Go.Proofs.Ytmlolnaannoifaa

/- Things that are copied and put, and scenes. -/
namespace Go.Proofs.Ytmlolnaannoifaa

theorem h149 (k a b : Int) : (∀ p ∈ pp149 (k, a, b, ()), p) ∧ ff149 (k, a, b, ()) = ((decide (a ≤ k ∧ k ≤ b), ()), ()) := by
  refine VT.H_in (P := fun w : W149 => w = ((decide (a ≤ k ∧ k ≤ b), ()), ())) ?_
  unfold tr149
  simp only [VT.H_ite_iff, VT.H_ret_iff, decide_eq_true_eq]
  split
  · rename_i h; simp [h]
  · rename_i h; simp [h]
theorem h166 (k : Int) : (∀ p ∈ pp166 (k, ()), p) ∧ ff166 (k, ()) = ((decide (0 ≤ k ∧ k ≤ 4), ()), ()) := by
  refine VT.H_in (P := fun w : W166 => w = ((decide (0 ≤ k ∧ k ≤ 4), ()), ())) ?_
  unfold tr166
  simp only [VT.H_pre_iff, VT.H_ret_iff, (h149 _ _ _).2]
  exact ⟨(h149 _ _ _).1, trivial⟩
theorem h167 (k : Int) : (∀ p ∈ pp167 (k, ()), p) ∧ ff167 (k, ()) = ((decide (5 ≤ k ∧ k ≤ 8), ()), ()) := by
  refine VT.H_in (P := fun w : W167 => w = ((decide (5 ≤ k ∧ k ≤ 8), ()), ())) ?_
  unfold tr167
  simp only [VT.H_pre_iff, VT.H_ret_iff, (h149 _ _ _).2]
  exact ⟨(h149 _ _ _).1, trivial⟩

/-- Children that are not too far. -/
def near (n : NodeD) : Prop := -1000 ≤ n.2.1 ∧ n.2.1 ≤ 1000 ∧ -1000 ≤ n.2.2.1 ∧ n.2.2.1 ≤ 1000 ∧ n.2.2.2.1.length ≤ 1000

theorem h174 (out ns : List NodeD) (hn : ∀ n ∈ ns, near n) (hl : ns.length ≤ 1000) (ho : out.length ≤ 1000) : (∀ p ∈ pp174 (out, (ns, ()), 0, ()), p) ∧ ff174 (out, (ns, ()), 0, ()) = ((out ++ ns, ()), ()) := by
  refine VT.H_in (P := fun w : W174 => w = ((out ++ ns, ()), ())) ?_
  unfold tr174
  refine VT.H_loop (fun k : K174_r2 => 0 ≤ k.1 ∧ k.1 ≤ ns.length ∧ k.2.1 = out ++ ns.take k.1.toNat) (fun k => (ns.length - k.1).toNat) ⟨by simp, by simp, by simp⟩ ?_
  rintro ⟨i, o, u⟩ ⟨h1, h2, h3⟩
  simp only at h1 h2 h3
  unfold lp174_1
  simp only [VT.H_ite_iff, HL_iff, VT.H_step_iff, VT.H_exit_iff, VT.H_ret_iff, VT.H_pre_iff, VT.H_next_iff, decide_eq_true_eq, (h166 _).2, (h167 _).2]
  split
  · rename_i hi
    have hi' : i.toNat < ns.length := by omega
    have hm := hn _ (getD_mem (d := (0, 0, 0, [], ())) hi')
    obtain ⟨nd, hnd⟩ : ∃ nd, ns.getD i.toNat (0, 0, 0, [], ()) = nd := ⟨_, rfl⟩
    simp only [hnd] at hm ⊢
    obtain ⟨m1, m2, m3, m4, m5⟩ := hm
    have e2 : IntKind.wrap .i64 (i + 1) = i + 1 := wrap_i64 (by omega) (by omega)
    have e3 : IntKind.wrap .i64 (nd.2.1 + 0) = nd.2.1 := by rw [Int.add_zero]; exact wrap_i64 (by omega) (by omega)
    have e4 : IntKind.wrap .i64 (nd.2.2.1 + 0) = nd.2.2.1 := by rw [Int.add_zero]; exact wrap_i64 (by omega) (by omega)
    rw [e2, e3, e4]
    have hol : o.length ≤ 3000 := by rw [h3]; simp; omega
    have hfin : (0 ≤ i + 1 ∧ i + 1 ≤ (ns.length : Int) ∧ o ++ [nd] = out ++ ns.take (i + 1).toNat) ∧ ((ns.length : Int) - (i + 1)).toNat < ((ns.length : Int) - i).toNat := by
      refine ⟨⟨by omega, by omega, ?_⟩, by omega⟩
      rw [show (i + 1).toNat = i.toNat + 1 by omega, take_succ' hi' (0, 0, 0, [], ()), h3, hnd, List.append_assoc]
    refine ⟨h1, hi, by omega, (h166 _).1, ?_⟩
    split
    · refine ⟨(h167 _).1, ?_⟩
      split
      · exact ⟨trivial, trivial, by simp; omega, hfin⟩
      · exact ⟨trivial, trivial, by simp; omega, hfin⟩
    · refine ⟨(h167 _).1, ?_⟩
      split
      · exact ⟨trivial, trivial, by simp; omega, hfin⟩
      · exact ⟨trivial, trivial, by simp; omega, hfin⟩
  · have hi : i.toNat = ns.length := by omega
    rw [hi, List.take_length] at h3
    rw [h3]
    exact ⟨trivial, rfl⟩

theorem h133 (ns : List NodeD) (hn : ∀ n ∈ ns, near n) (hl : ns.length ≤ 1000) : (∀ p ∈ pp133 ((ns, ()), ()), p) ∧ ff133 ((ns, ()), ()) = (((ns, ()), ()), ()) := by
  refine VT.H_in (P := fun w : W133 => w = (((ns, ()), ()), ())) ?_
  obtain ⟨q1, q2⟩ := h174 [] ns hn hl (by simp)
  unfold tr133
  simp only [VT.H_pre_iff, VT.H_ret_iff, VT.H_step_iff, q2]
  exact ⟨q1, trivial, rfl⟩

theorem Valid.near {ns : List NodeD} (h : Valid ns) : ∀ n ∈ ns, near n := by
  intro n hn
  obtain ⟨i, hi, he⟩ := List.getElem_of_mem hn
  have e : ns.getD i (0, 0, 0, [], ()) = n := by rw [← he]; simp [List.getD, hi]
  obtain ⟨h1, h2, h3⟩ := h.nodes i hi
  rw [e] at h1 h2 h3
  have hhi := h.high
  unfold numsOk ruleB at h1
  simp only [Bool.and_eq_true, decide_eq_true_eq] at h1
  have hk := rule_nums h1.1
  have hlen := h1.2.1
  unfold axOk at h2
  simp only [Bool.and_eq_true, Bool.or_eq_true, decide_eq_true_eq] at h2
  have hk1 : 0 < (ruleT n.1).2.1 → n.2.1 ∈ kids n := fun h => by
    unfold kids
    rcases rule_kids n.1 with h5 | h5 | h5 <;> simp [h5] at h ⊢
  have hk2 : (ruleT n.1).2.1 = 2 → n.2.2.1 ∈ kids n := fun h => by unfold kids; simp [h]
  have a1 : 0 ≤ n.2.1 ∧ n.2.1 ≤ 16 := by
    rcases h2.1 with h4 | h4
    · have := h3 _ (hk1 h4); omega
    · omega
  have a2 : 0 ≤ n.2.2.1 ∧ n.2.2.1 ≤ 16 := by
    rcases h2.2 with h4 | h4 | h4
    · have := h3 _ (hk2 h4); omega
    · omega
    · omega
  exact ⟨by omega, by omega, by omega, by omega, by omega⟩

theorem h101 (t : ThingD) (h : ThingOK t) : (∀ p ∈ pp101 (t, ()), p) ∧ ff101 (t, ()) = ((t, ()), ()) := by
  refine VT.H_in (P := fun w : W101 => w = ((t, ()), ())) ?_
  obtain ⟨q1, q2⟩ := h133 t.2.1 h.shape.near (by have := h.size; omega)
  have := h.keys.high
  unfold tr101
  simp only [VT.H_pre_iff, VT.H_ret_iff, VT.H_step_iff, q2]
  exact ⟨q1, by omega, trivial, trivial⟩

def rk (t : ThingD) : Nat := names.findIdx (· == t.1)
def slo (x y : ByteArray) : Bool := slt' x y
theorem names_lt : ∀ x ∈ names, ∀ y ∈ names, slt' x y = decide (names.findIdx (· == x) < names.findIdx (· == y)) := by decide +kernel
theorem names_eq : ∀ x ∈ names, ∀ y ∈ names, seq' x y = decide (names.findIdx (· == x) = names.findIdx (· == y)) := by decide +kernel
end Go.Proofs.Ytmlolnaannoifaa

/- A thing put into a scene, and scenes as they are drawn. -/
namespace Go.Proofs.Ytmlolnaannoifaa

theorem thing_lt {x y : ThingD} (hx : ThingOK x) (hy : ThingOK y) : slt' x.1 y.1 = decide (rk x < rk y) := names_lt _ hx.name _ hy.name
theorem thing_eq {x y : ThingD} (hx : ThingOK x) (hy : ThingOK y) : seq' x.1 y.1 = decide (rk x = rk y) := names_eq _ hx.name _ hy.name

/-- A scene that is being copied, with one thing more. -/
structure Ins (t : ThingD) (put : Bool) (out rest : List ThingD) : Prop where
  ok : ∀ x ∈ out, ThingOK x
  rise : out.Pairwise (rk · < rk ·)
  cross : ∀ a ∈ out, ∀ b ∈ rest, rk b ≠ rk t → rk a < rk b
  before : put = false → ∀ a ∈ out, rk a < rk t
  after : put = true → ∀ b ∈ rest, rk t ≤ rk b

theorem Ins.put {t : ThingD} {out rest : List ThingD} (h : Ins t false out rest) (ht : ThingOK t) (hr : ∀ b ∈ rest, rk t ≤ rk b) : Ins t true (out ++ [t]) rest where
  ok x hx := by
    rcases List.mem_append.1 hx with h1 | h1
    · exact h.ok x h1
    · rw [List.mem_singleton.1 h1]; exact ht
  rise := by
    rw [List.pairwise_append]
    exact ⟨h.rise, by simp, fun a ha b hb => by rw [List.mem_singleton.1 hb]; exact h.before rfl a ha⟩
  cross a ha b hb hne := by
    rcases List.mem_append.1 ha with h1 | h1
    · exact h.cross a h1 b hb hne
    · rw [List.mem_singleton.1 h1]
      have := hr b hb
      omega
  before h := by cases h
  after _ := hr

theorem Ins.keep {t x : ThingD} {put : Bool} {out rest : List ThingD} (h : Ins t put out (x :: rest)) (hx : ThingOK x) (hr : ∀ b ∈ rest, rk x < rk b) (hb : put = false → rk x < rk t) (hne : rk x ≠ rk t) : Ins t put (out ++ [x]) rest where
  ok y hy := by
    rcases List.mem_append.1 hy with h1 | h1
    · exact h.ok y h1
    · rw [List.mem_singleton.1 h1]; exact hx
  rise := by
    rw [List.pairwise_append]
    exact ⟨h.rise, by simp, fun a ha b hb => by rw [List.mem_singleton.1 hb]; exact h.cross a ha x (by simp) hne⟩
  cross a ha b hb hn := by
    rcases List.mem_append.1 ha with h1 | h1
    · exact h.cross a h1 b (by simp [hb]) hn
    · rw [List.mem_singleton.1 h1]; exact hr b hb
  before hp a ha := by
    rcases List.mem_append.1 ha with h1 | h1
    · exact h.before hp a h1
    · rw [List.mem_singleton.1 h1]; exact hb hp
  after hp b hb := h.after hp b (by simp [hb])

theorem Ins.skip {t x : ThingD} {put : Bool} {out rest : List ThingD} (h : Ins t put out (x :: rest)) : Ins t put out rest :=
  ⟨h.ok, h.rise, fun a ha b hb hn => h.cross a ha b (by simp [hb]) hn, h.before, fun hp b hb => h.after hp b (by simp [hb])⟩

theorem Ins.skipAll {t : ThingD} {put : Bool} {out rest : List ThingD} (h : Ins t put out rest) : Ins t put out [] :=
  ⟨h.ok, h.rise, fun a _ b hb => by simp at hb, h.before, fun _ b hb => by simp at hb⟩

structure SceneOK (s : List ThingD) : Prop where
  each : ∀ x ∈ s, ThingOK x
  rise : s.Pairwise (rk · < rk ·)

theorem h59 (s : List ThingD) (t : ThingD) (hs : SceneOK s) (ht : ThingOK t) (hl : s.length ≤ 100) :
    (∀ p ∈ pp59 ((s, ()), t, ()), p) ∧ SceneOK (ff59 ((s, ()), t, ())).1.1.1 ∧ (ff59 ((s, ()), t, ())).1.1.1.length ≤ s.length + 1 := by
  refine VT.H_in (P := fun w : W59 => SceneOK w.1.1.1 ∧ w.1.1.1.length ≤ s.length + 1) ?_
  unfold tr59
  refine VT.H_loop (fun k : K59_r4 => 0 ≤ k.2.1 ∧ k.2.1 ≤ s.length ∧ k.2.2.1.length ≤ k.2.1 + (if k.1 then 1 else 0) ∧ Ins t k.1 k.2.2.1 (s.drop k.2.1.toNat)) (fun k => (s.length - k.2.1).toNat)
    ⟨by simp, by simp, by simp, ⟨by simp, by simp, by simp, by simp, by simp⟩⟩ ?_
  rintro ⟨put, i, out, u⟩ ⟨h1, h2, h3, h4⟩
  simp only at h1 h2 h3 h4
  obtain ⟨t1, t2⟩ := h101 t ht
  have hol : out.length ≤ 102 := by split at h3 <;> omega
  unfold lp59_1
  simp only [VT.H_ite_iff, HL_iff, VT.H_step_iff, VT.H_exit_iff, VT.H_ret_iff, VT.H_pre_iff, VT.H_next_iff, decide_eq_true_eq, t2]
  split
  · rename_i hi
    have hi' : i.toNat < s.length := by omega
    have hxm : s.getD i.toNat (ByteArray.empty, [], [], ()) ∈ s := getD_mem hi'
    have hd : s.drop i.toNat = s.getD i.toNat (ByteArray.empty, [], [], ()) :: s.drop (i.toNat + 1) := by
      rw [List.drop_eq_getElem_cons hi']
      simp [List.getD, hi']
    obtain ⟨x, hx⟩ : ∃ x, s.getD i.toNat (ByteArray.empty, [], [], ()) = x := ⟨_, rfl⟩
    rw [hx] at hxm hd
    rw [hd] at h4
    have hxo := hs.each x hxm
    obtain ⟨x1, x2⟩ := h101 x hxo
    have hpw : (x :: s.drop (i.toNat + 1)).Pairwise (rk · < rk ·) := by rw [← hd]; exact hs.rise.drop
    rw [List.pairwise_cons] at hpw
    have e2 : IntKind.wrap .i64 (i + 1) = i + 1 := wrap_i64 (by omega) (by omega)
    have e3 : (i + 1).toNat = i.toNat + 1 := by omega
    simp only [hx, x2, e2, e3]
    rw [thing_lt hxo ht, thing_eq hxo ht]
    refine ⟨h1, hi, ?_⟩
    cases put with
    | false =>
      simp only [Bool.not_false, if_true]
      by_cases hlt : rk x < rk t
      · have hne : rk x ≠ rk t := by omega
        simp only [decide_eq_true hlt, decide_eq_false hne, Bool.not_true, Bool.not_false, Bool.false_eq_true, if_false, if_true]
        exact ⟨x1, trivial, by simp; omega, ⟨by omega, by omega, by simp at h3 ⊢; omega, h4.keep hxo hpw.1 (fun _ => hlt) hne⟩, by omega⟩
      · have hge : ∀ b ∈ x :: s.drop (i.toNat + 1), rk t ≤ rk b := fun b hb => by
          rcases List.mem_cons.1 hb with rfl | hb
          · omega
          · have := hpw.1 b hb; omega
        have h5 := h4.put ht hge
        simp only [decide_eq_false hlt, Bool.not_false, if_true]
        refine ⟨t1, trivial, by simp; omega, ?_⟩
        by_cases hne : rk x = rk t
        · simp only [decide_eq_true hne, Bool.not_true, Bool.false_eq_true, if_false]
          exact ⟨⟨by omega, by omega, by simp at h3 ⊢; omega, h5.skip⟩, by omega⟩
        · simp only [decide_eq_false hne, Bool.not_false, if_true]
          exact ⟨x1, trivial, by simp; omega, ⟨by omega, by omega, by simp at h3 ⊢; omega, h5.keep hxo hpw.1 (fun h => by cases h) hne⟩, by omega⟩
    | true =>
      simp only [Bool.not_true, Bool.false_eq_true, if_false]
      by_cases hne : rk x = rk t
      · simp only [decide_eq_true hne, Bool.not_true, Bool.false_eq_true, if_false]
        exact ⟨⟨by omega, by omega, by simp at h3 ⊢; omega, h4.skip⟩, by omega⟩
      · simp only [decide_eq_false hne, Bool.not_false, if_true]
        exact ⟨x1, trivial, by simp; omega, ⟨by omega, by omega, by simp at h3 ⊢; omega, h4.keep hxo hpw.1 (fun h => by cases h) hne⟩, by omega⟩
  · cases put with
    | false =>
      have h5 := (h4.skipAll).put ht (by simp)
      simp only [Bool.not_false, if_true]
      exact ⟨t1, trivial, by simp; omega, trivial, ⟨h5.ok, h5.rise⟩, by simp at h3 ⊢; omega⟩
    | true =>
      simp only [Bool.not_true, Bool.false_eq_true, if_false]
      exact ⟨trivial, ⟨h4.ok, h4.rise⟩, by simp at h3 ⊢; omega⟩

theorem h28 (s : SrcD) (B : Int) (hs : SrcOK B s) (hB : B < 4611686018427380000 - 10000) :
    (∀ p ∈ pp28 (s, ()), p) ∧ SceneOK (ff28 (s, ())).1.1.1 ∧ (ff28 (s, ())).1.1.1.length ≤ 3 := by
  refine VT.H_in (P := fun w : W28 => SceneOK w.1.1.1 ∧ w.1.1.1.length ≤ 3) ?_
  obtain ⟨a1, a2, a3, a4⟩ := h46 s 4 B hs (by omega) (by decide)
  unfold tr28
  simp only [VT.H_pre_iff, HL_iff, src_eta]
  refine ⟨a1, ?_⟩
  refine HL_in (fun k : K28_r3 => 0 ≤ k.1 ∧ k.1 ≤ 3 ∧ k.1 + k.2.2.2.2.1.length ≤ 3 ∧ SrcOK (B + 2 + 500 * (3 - k.1)) (k.2.1, k.2.2.1, k.2.2.2.1, ()) ∧ SceneOK k.2.2.2.2.1) (fun k => k.1.toNat)
    ⟨by simp only; omega, by simp only; omega, by simp; omega, a4.mono (by simp only; omega), ⟨by simp, by simp⟩⟩ ?_
  rintro ⟨c, s1, s2, s3, out, u⟩ ⟨h1, h2, h3, h4, h5⟩
  simp only at h1 h2 h3 h4 h5
  unfold lp28_1
  simp only [VT.H_ite_iff, HL_iff, VT.H_step_iff, VT.H_exit_iff, VT.H_ret_iff, VT.H_pre_iff, VT.H_next_iff, decide_eq_true_eq, src_eta]
  split
  · rename_i hc
    obtain ⟨b1, b2, b3⟩ := h58 (s1, s2, s3, ()) _ h4 (by omega)
    generalize ff58 ((s1, s2, s3, ()), ()) = w at b2 b3
    obtain ⟨c1, c2, c3⟩ := h59 out w.1.1 h5 b2 (by omega)
    have e2 : IntKind.wrap .i64 (c - 1) = c - 1 := wrap_i64 (by omega) (by omega)
    simp only [e2]
    have e5 : ((w.1.1.1, w.1.1.2.1, w.1.1.2.2.1, ()) : ThingD) = w.1.1 := rfl
    rw [e5]
    exact ⟨b1, trivial, c1, ⟨by omega, by omega, by omega, b3.mono (by omega), c2⟩, by omega⟩
  · exact ⟨trivial, h5, by omega⟩

theorem h7 (a : List Int) (ha : ∀ n ∈ a, 0 ≤ n ∧ n ≤ 255) : (∀ p ∈ pp7 (a, ()), p) ∧ SceneOK (ff7 (a, ())).1.1.1 ∧ (ff7 (a, ())).1.1.1.length ≤ 3 := by
  refine VT.H_in (P := fun w : W7 => SceneOK w.1.1.1 ∧ w.1.1.1.length ≤ 3) ?_
  obtain ⟨a1, a2⟩ := h27 a
  obtain ⟨b1, b2, b3⟩ := h28 (a, 0, 0, ()) 0 (src_start ha) (by decide)
  unfold tr7
  simp only [VT.H_pre_iff, VT.H_ret_iff, a2]
  exact ⟨a1, b1, b2, b3⟩
end Go.Proofs.Ytmlolnaannoifaa

/- How great a float can be that an operation gives. -/
namespace Go.Proofs.Ytmlolnaannoifaa
open Ieee

/-- At most 2 ^ (e - 127). -/
def Le (e : Nat) (x : Nat) : Prop := x % 2147483648 ≤ e * 8388608
theorem Le.mono {e f x : Nat} (h : Le e x) (hf : e ≤ f) : Le f x := Nat.le_trans h (Nat.mul_le_mul_right _ hf)

theorem f32_format : FloatKind.f32.format = single := rfl

theorem read_le {e x : Nat} (h : Le e x) (h1 : 1 ≤ e) (h2 : e ≤ 254) : ∃ s m p, single.read x = .number s m p ∧ m < 2 ^ 24 ∧ -149 ≤ p ∧ p ≤ (e : Int) - 150 := by
  have c1 : single.signWeight = 2147483648 := by decide
  have c2 : single.binade = 8388608 := by decide
  have c3 : single.infRung = 2139095040 := by decide
  have c4 : single.leastPlace = -149 := by decide
  unfold Le at h
  unfold Format.read
  simp only [c1, c2, c3, c4]
  by_cases q : x % 2147483648 < 8388608
  · rw [if_pos q]
    exact ⟨_, _, _, rfl, by omega, by omega, by omega⟩
  · rw [if_neg q, if_pos (by omega)]
    refine ⟨_, _, _, rfl, ?_, by omega, ?_⟩
    · have := Nat.mod_lt (x % 2147483648) (show 0 < 8388608 by decide)
      omega
    · have : x % 2147483648 / 8388608 ≤ e := by
        have := Nat.div_le_div_right (c := 8388608) h
        rwa [Nat.mul_div_cancel _ (by decide)] at this
      omega

theorem log2_lt {m b : Nat} (h0 : m ≠ 0) (h : m < 2 ^ b) : m.log2 < b := (Nat.log2_lt h0).2 h

theorem shl_one (n : Nat) : 1 <<< n = 2 ^ n := by rw [Nat.shiftLeft_eq, Nat.one_mul]

theorem div_small {m a g : Nat} (h : m < 2 ^ (a + 24)) (hg : a ≤ g) : m / 2 ^ g < 2 ^ 24 := by
  rw [Nat.div_lt_iff_lt_mul (Nat.two_pow_pos _)]
  refine Nat.lt_of_lt_of_le h ?_
  rw [← Nat.pow_add]
  exact Nat.pow_le_pow_right (by decide) (by omega)

theorem cut_le {neg : Bool} {m drop L : Nat} (h0 : m ≠ 0) (hL : m.log2 = L) (hd : L ≤ drop + 23) (hm : drop = 0 → m < 2 ^ 24) : Toward.even.cut neg m drop ≤ 2 ^ 24 := by
  unfold Toward.cut
  simp only [hL, shl_one]
  have hlt : m < 2 ^ (L + 1) := by rw [← hL]; exact Nat.lt_log2_self
  have hq : m / 2 ^ min drop (L + 2) < 2 ^ 24 := by
    refine div_small (a := L - 23) ?_ (by omega)
    exact Nat.lt_of_lt_of_le hlt (Nat.pow_le_pow_right (by decide) (by omega))
  have hb : ∀ b : Bool, b.toNat ≤ 1 := by decide
  have := hb (decide (2 ^ min drop (L + 2) < 2 * (m % 2 ^ min drop (L + 2))) || (2 ^ min drop (L + 2) == 2 * (m % 2 ^ min drop (L + 2)) && m / 2 ^ min drop (L + 2) % 2 == 1))
  omega

theorem near_le {s : Bool} {m : Nat} {p : Int} {B : Int} {b : Nat} (hm : m < 2 ^ b) (hB : p + b ≤ B) (hB2 : B ≤ 127) : Le (max (B + 127) 2).toNat (single.nearest s m p) := by
  have c1 : single.signWeight = 2147483648 := by decide
  have c2 : single.binade = 8388608 := by decide
  have c3 : single.infRung = 2139095040 := by decide
  have c4 : single.leastPlace = -149 := by decide
  have c5 : single.fractionBits = 23 := rfl
  have wd : ∀ r : Nat, r < 2147483648 → single.word s r % 2147483648 = r := by
    intro r hr
    unfold Format.word
    rw [c1]
    split <;> omega
  unfold Le Format.nearest
  split
  · rw [wd 0 (by decide)]; omega
  · rename_i h0
    simp only [c2, c3, c4, c5]
    have hL := log2_lt h0 hm
    generalize hl : m.log2 = L at hL
    have hlt : m < 2 ^ (L + 1) := by rw [← hl]; exact Nat.lt_log2_self
    generalize hlast : max (p + (L : Int) - ((23 : Nat) : Int)) (-149) = last
    have hcut : Toward.even.cut s (m <<< (p - last).toNat) (last - p).toNat ≤ 2 ^ 24 := by
      by_cases hpl : last ≤ p
      · have e1 : (last - p).toNat = 0 := by omega
        have hn : m <<< (p - last).toNat < 2 ^ 24 := by
          rw [Nat.shiftLeft_eq]
          have h3 : m * 2 ^ (p - last).toNat < 2 ^ (L + 1) * 2 ^ (p - last).toNat := Nat.mul_lt_mul_of_pos_right hlt (Nat.two_pow_pos _)
          rw [← Nat.pow_add] at h3
          exact Nat.lt_of_lt_of_le h3 (Nat.pow_le_pow_right (by decide) (by omega))
        have hne : m <<< (p - last).toNat ≠ 0 := by
          rw [Nat.shiftLeft_eq]
          have := Nat.two_pow_pos (p - last).toNat
          exact Nat.mul_ne_zero h0 (by omega)
        rw [e1]
        refine cut_le hne rfl ?_ (fun _ => hn)
        have := log2_lt hne hn
        omega
      · have e1 : (p - last).toNat = 0 := by omega
        rw [e1, Nat.shiftLeft_zero]
        exact cut_le h0 hl (by omega) (by omega)
    generalize Toward.even.cut s (m <<< (p - last).toNat) (last - p).toNat = kept at hcut
    have hk : kept ≤ 16777216 := Nat.le_trans hcut (by decide)
    have hr : ∀ X : Nat, (last - -149).toNat + 2 ≤ X → min ((last - -149).toNat * 8388608 + kept) 2139095040 ≤ X * 8388608 := by
      intro X hX
      refine Nat.le_trans (Nat.min_le_left _ _) ?_
      generalize (last - -149).toNat = Y at hX
      omega
    have hz := hr _ (show (last - -149).toNat + 2 ≤ (max (B + 127) 2).toNat by omega)
    have hz2 : min ((last - -149).toNat * 8388608 + kept) 2139095040 ≤ 2139095040 := Nat.min_le_right _ _
    generalize min ((last - -149).toNat * 8388608 + kept) 2139095040 = z at hz hz2 ⊢
    rw [wd z (by omega)]
    exact hz

theorem signed_abs (s : Bool) (m u : Nat) : (signed s m u).natAbs = m * 2 ^ u := by
  unfold signed
  rw [Nat.shiftLeft_eq]
  split
  · rw [Int.natAbs_neg]; exact Int.natAbs_natCast _
  · exact Int.natAbs_natCast _

theorem sum_le {e : Nat} {s t : Bool} {m n : Nat} {i j : Int} (hm : m < 2 ^ 24) (hn : n < 2 ^ 24) (hi : -149 ≤ i ∧ i ≤ (e : Int) - 150) (hj : -149 ≤ j ∧ j ≤ (e : Int) - 150) (he : e ≤ 250) :
    ∃ d, Datum.sum (.number s m i) (.number t n j) = some d ∧ Le (e + 2) (single.write d) := by
  refine ⟨_, rfl, ?_⟩
  have key : (signed s m (i - min i j).toNat + signed t n (j - min i j).toNat).natAbs < 2 ^ (25 + (max i j - min i j).toNat) := by
    have h1 := Int.natAbs_add_le (signed s m (i - min i j).toNat) (signed t n (j - min i j).toNat)
    rw [signed_abs, signed_abs] at h1
    have p1 : 2 ^ (i - min i j).toNat ≤ 2 ^ (max i j - min i j).toNat := Nat.pow_le_pow_right (by decide) (by omega)
    have p2 : 2 ^ (j - min i j).toNat ≤ 2 ^ (max i j - min i j).toNat := Nat.pow_le_pow_right (by decide) (by omega)
    have q1 : m * 2 ^ (i - min i j).toNat ≤ m * 2 ^ (max i j - min i j).toNat := Nat.mul_le_mul_left _ p1
    have q2 : n * 2 ^ (j - min i j).toNat ≤ n * 2 ^ (max i j - min i j).toNat := Nat.mul_le_mul_left _ p2
    have p0 := Nat.two_pow_pos (max i j - min i j).toNat
    have q3 : (m + n) * 2 ^ (max i j - min i j).toNat < 2 ^ 25 * 2 ^ (max i j - min i j).toNat := Nat.mul_lt_mul_of_pos_right (by omega) p0
    rw [Nat.add_mul] at q3
    rw [Nat.pow_add]
    omega
  have := near_le (s := if signed s m (i - min i j).toNat + signed t n (j - min i j).toNat = 0 then s && t else decide (signed s m (i - min i j).toNat + signed t n (j - min i j).toNat < 0)) (p := min i j) (B := (e : Int) - 125) key (by omega) (by omega)
  exact this.mono (by omega)

theorem add_le {e x y : Nat} (hx : Le e x) (hy : Le e y) (h1 : 1 ≤ e) (h2 : e ≤ 250) : Le (e + 2) (fop .add .f32 x y) := by
  obtain ⟨s, m, p, r1, r2, r3⟩ := read_le hx h1 (by omega)
  obtain ⟨t, n, q, u1, u2, u3⟩ := read_le hy h1 (by omega)
  obtain ⟨d, k1, k2⟩ := sum_le (s := s) (t := t) r2 u2 r3 u3 h2
  have : fop .add .f32 x y = single.write d := by
    show (Option.map single.write ((single.read x).sum (single.read y))).getD _ = _
    rw [r1, u1, k1]; rfl
  rw [this]; exact k2
theorem sub_le {e x y : Nat} (hx : Le e x) (hy : Le e y) (h1 : 1 ≤ e) (h2 : e ≤ 250) : Le (e + 2) (fop .sub .f32 x y) := by
  obtain ⟨s, m, p, r1, r2, r3⟩ := read_le hx h1 (by omega)
  obtain ⟨t, n, q, u1, u2, u3⟩ := read_le hy h1 (by omega)
  obtain ⟨d, k1, k2⟩ := sum_le (s := s) (t := !t) r2 u2 r3 u3 h2
  have : fop .sub .f32 x y = single.write d := by
    show (Option.map single.write ((single.read x).sum (single.read y).opposite)).getD _ = _
    rw [r1, u1]
    show (Option.map single.write (Datum.sum (.number s m p) (.number (!t) n q))).getD _ = _
    rw [k1]; rfl
  rw [this]; exact k2
theorem mul_le {e f x y : Nat} (hx : Le e x) (hy : Le f y) (h1 : 1 ≤ e) (h2 : e ≤ 254) (h3 : 1 ≤ f) (h4 : f ≤ 254) (h5 : e + f ≤ 370) : Le (max (e + f - 125) 2) (fop .mul .f32 x y) := by
  obtain ⟨s, m, p, r1, r2, r3⟩ := read_le hx h1 (by omega)
  obtain ⟨t, n, q, u1, u2, u3⟩ := read_le hy h3 (by omega)
  have : fop .mul .f32 x y = single.nearest (s ^^ t) (m * n) (p + q) := by
    show (Option.map single.write ((single.read x).product (single.read y))).getD _ = _
    rw [r1, u1]; rfl
  rw [this]
  have hmn : m * n < 2 ^ 48 := by
    have := Nat.mul_lt_mul'' r2 u2
    exact this
  exact (near_le (s := s ^^ t) (p := p + q) (B := (e : Int) + f - 252) hmn (by omega) (by omega)).mono (by omega)

theorem sub_self_le {e x : Nat} (hx : Le e x) (h2 : e ≤ 250) : fop .sub .f32 x x = 0 := by
  obtain ⟨s, m, p, r1, r2, r3⟩ := read_le (hx.mono (show e ≤ max e 1 by omega)) (by omega) (by omega)
  show (Option.map single.write ((single.read x).sum (single.read x).opposite)).getD _ = 0
  rw [r1]
  have e1 : signed s m (p - min p p).toNat + signed (!s) m (p - min p p).toNat = 0 := by
    unfold signed
    cases s <;> simp <;> omega
  show (Option.map single.write (some (Datum.number (if signed s m (p - min p p).toNat + signed (!s) m (p - min p p).toNat = 0 then s && !s else _) (signed s m (p - min p p).toNat + signed (!s) m (p - min p p).toNat).natAbs (min p p)))).getD _ = 0
  rw [e1]
  simp only [if_true, Int.natAbs_zero]
  have : (s && !s) = false := by cases s <;> rfl
  rw [this]
  rfl
end Go.Proofs.Ytmlolnaannoifaa

/- Where a thing is at a time. -/
namespace Go.Proofs.Ytmlolnaannoifaa

theorem fin_of_le {e x : Nat} (h : Le e x) (he : e ≤ 250) : fin x = true := by
  unfold fin
  rw [sub_self_le h he]
  decide +kernel
theorem small_le {x : Nat} (h : Small x) : Le 129 x := by
  obtain ⟨i, h1, h2, rfl⟩ := h
  have := small_range (p := fun i => decide (quarter i % 2147483648 ≤ 129 * 8388608)) (lo := -16) (n := 33) (by decide +kernel) h1 (by omega)
  simpa [Le] using this
theorem share_le {n m : Int} (h1 : 1 ≤ n) (h2 : n < m) (h3 : m ≤ 8) : Le 127 (fop .quo .f32 (FloatKind.nearest .f32 n) (FloatKind.nearest .f32 m)) := by
  have hn := small_range (p := fun n => (List.range 7).all fun j => decide (n < 2 + (j : Int)) == false || decide (fop .quo .f32 (FloatKind.nearest .f32 n) (FloatKind.nearest .f32 (2 + (j : Int))) % 2147483648 ≤ 127 * 8388608)) (lo := 1) (n := 7) (by decide +kernel) h1 (by omega)
  rw [List.all_eq_true] at hn
  have := hn (m - 2).toNat (List.mem_range.2 (by omega))
  rw [show (2 : Int) + ((m - 2).toNat : Int) = m by omega] at this
  simp [h2] at this
  exact this

def Le3 (e : Nat) (v : VecD) : Prop := Le e v.1 ∧ Le e v.2.1 ∧ Le e v.2.2.1
theorem SmallV.le3 {v : VecD} (h : SmallV v) : Le3 140 v := ⟨(small_le h.1).mono (by decide), (small_le h.2.1).mono (by decide), (small_le h.2.2).mono (by decide)⟩

def vsub (a b : VecD) : VecD := (fop .sub .f32 a.1 b.1, fop .sub .f32 a.2.1 b.2.1, fop .sub .f32 a.2.2.1 b.2.2.1, ())
theorem h14 (a b : VecD) : (∀ p ∈ pp14 (a, b, ()), p) ∧ ff14 (a, b, ()) = ((vsub a b, ()), ()) := VT.H_in (P := fun w : W14 => w = ((vsub a b, ()), ())) (VT.H_ret rfl)
def vadd (a b : VecD) : VecD := (fop .add .f32 a.1 b.1, fop .add .f32 a.2.1 b.2.1, fop .add .f32 a.2.2.1 b.2.2.1, ())
theorem h134 (a b : VecD) : (∀ p ∈ pp134 (a, b, ()), p) ∧ ff134 (a, b, ()) = ((vadd a b, ()), ()) := VT.H_in (P := fun w : W134 => w = ((vadd a b, ()), ())) (VT.H_ret rfl)
def vmul (a : VecD) (s : Nat) : VecD := (fop .mul .f32 a.1 s, fop .mul .f32 a.2.1 s, fop .mul .f32 a.2.2.1 s, ())
theorem h135 (a : VecD) (s : Nat) : (∀ p ∈ pp135 (a, s, ()), p) ∧ ff135 (a, s, ()) = ((vmul a s, ()), ()) := VT.H_in (P := fun w : W135 => w = ((vmul a s, ()), ())) (VT.H_ret rfl)
theorem h102 (a b : VecD) (s : Nat) : (∀ p ∈ pp102 (a, b, s, ()), p) ∧ ff102 (a, b, s, ()) = ((vadd a (vmul (vsub b a) s), ()), ()) := by
  refine VT.H_in (P := fun w : W102 => w = ((vadd a (vmul (vsub b a) s), ()), ())) ?_
  unfold tr102
  simp only [VT.H_pre_iff, VT.H_ret_iff]
  obtain ⟨a1, a2⟩ := h14 b a
  obtain ⟨b1, b2⟩ := h135 (vsub b a) s
  obtain ⟨c1, c2⟩ := h134 a (vmul (vsub b a) s)
  have e : ∀ v : VecD, (v.1, v.2.1, v.2.2.1, ()) = v := fun _ => rfl
  simp only [e, a2, b2, c2]
  exact ⟨a1, b1, c1, trivial⟩

theorem mix_le {a b s : Nat} (ha : Le 129 a) (hb : Le 129 b) (hs : Le 127 s) : Le 140 (fop .add .f32 a (fop .mul .f32 (fop .sub .f32 b a) s)) := by
  have h1 := sub_le hb ha (by decide) (by decide)
  have h2 := mul_le h1 hs (by decide) (by decide) (by decide) (by decide) (by decide)
  exact (add_le (e := 133) (ha.mono (by decide)) (h2.mono (by decide)) (by decide) (by decide)).mono (by decide)

theorem h60 (a b : KeyD) (t : Int) (ha : KeyIn a) (hb : KeyIn b) (h1 : a.1 < t) (h2 : t < b.1) (h3 : b.1 ≤ a.1 + 8) : (∀ p ∈ pp60 (a, b, t, ()), p) ∧ Le3 140 (ff60 (a, b, t, ())).1.1 := by
  refine VT.H_in (P := fun w : W60 => Le3 140 w.1.1) ?_
  have e1 : IntKind.wrap .i64 (t - a.1) = t - a.1 := wrap_i64 (by have := ha.1; have := hb.2.1; omega) (by have := ha.1; have := hb.2.1; omega)
  have e2 : IntKind.wrap .i64 (b.1 - a.1) = b.1 - a.1 := wrap_i64 (by have := ha.1; have := hb.2.1; omega) (by have := ha.1; have := hb.2.1; omega)
  have hs := share_le (n := t - a.1) (m := b.1 - a.1) (by omega) (by omega) (by omega)
  have e : ∀ k : KeyD, (k.2.1, k.2.2.1, k.2.2.2.1, ()) = k.2 := fun _ => rfl
  unfold tr60
  simp only [VT.H_pre_iff, VT.H_ret_iff, e1, e2, e, (h102 _ _ _).2]
  refine ⟨(h102 _ _ _).1, ?_⟩
  obtain ⟨a1, a2, a3⟩ := ha.2.2
  obtain ⟨b1, b2, b3⟩ := hb.2.2
  exact ⟨mix_le (small_le a1) (small_le b1) hs, mix_le (small_le a2) (small_le b2) hs, mix_le (small_le a3) (small_le b3) hs⟩

theorem h32 (t : ThingD) (time : Int) (ht : KeysOK t.2.2.1) : (∀ p ∈ pp32 (t, time, ()), p) ∧ Le3 140 (ff32 (t, time, ())).1.1 := by
  refine VT.H_in (P := fun w : W32 => Le3 140 w.1.1) ?_
  obtain ⟨nm, ns, ks, u⟩ := t
  simp only at ht
  have hl := ht.low
  have hh := ht.high
  have hk : ∀ i, i < ks.length → KeyIn (ks.getD i (0, 0, 0, 0, ())) := fun i hi => ht.each _ (getD_mem hi)
  have hp : ∀ i, i < ks.length → Le3 140 (ks.getD i (0, 0, 0, 0, ())).2 := fun i hi => (hk i hi).2.2.le3
  unfold tr32
  simp only [VT.H_ite_iff, HL_iff, VT.H_step_iff, VT.H_ret_iff, decide_eq_true_eq]
  refine ⟨by decide, by omega, ?_⟩
  split
  · exact ⟨by decide, by omega, hp 0 (by omega)⟩
  · rename_i h0
    refine HL_in (fun k : K32_r4 => 1 ≤ k.1 ∧ k.1 ≤ ks.length ∧ (ks.getD (k.1.toNat - 1) (0, 0, 0, 0, ())).1 < time) (fun k => (ks.length - k.1).toNat) ⟨by simp, by simp; omega, by simpa using h0⟩ ?_
    rintro ⟨i, u2⟩ ⟨h1, h2, h3⟩
    simp only at h1 h2 h3
    unfold lp32_1
    simp only [VT.H_ite_iff, HL_iff, VT.H_step_iff, VT.H_exit_iff, VT.H_ret_iff, VT.H_pre_iff, VT.H_next_iff, decide_eq_true_eq]
    split
    · rename_i hi
      have e1 : IntKind.wrap .i64 (i - 1) = i - 1 := wrap_i64 (by omega) (by omega)
      have e2 : IntKind.wrap .i64 (i + 1) = i + 1 := wrap_i64 (by omega) (by omega)
      have e3 : (i - 1).toNat = i.toNat - 1 := by omega
      have e : ∀ k : KeyD, (k.1, k.2.1, k.2.2.1, k.2.2.2.1, ()) = k := fun _ => rfl
      rw [e1, e2, e3]
      simp only [e]
      refine ⟨by omega, hi, ?_⟩
      split
      · exact hp _ (by omega)
      · rename_i hne
        split
        · rename_i hlt
          have hr := ht.rise (i.toNat - 1) (by omega)
          rw [show i.toNat - 1 + 1 = i.toNat by omega] at hr
          obtain ⟨q1, q2⟩ := h60 (ks.getD (i.toNat - 1) (0, 0, 0, 0, ())) (ks.getD i.toNat (0, 0, 0, 0, ())) time (hk _ (by omega)) (hk _ (by omega)) h3 hlt hr.2
          exact ⟨by omega, by omega, q1, q2⟩
        · refine ⟨⟨by omega, by omega, ?_⟩, by omega⟩
          rw [show (i + 1).toNat - 1 = i.toNat by omega]
          omega
    · have e1 : IntKind.wrap .i64 ((ks.length : Int) - 1) = (ks.length : Int) - 1 := wrap_i64 (by omega) (by omega)
      rw [e1]
      exact ⟨by omega, by omega, hp _ (by omega)⟩
end Go.Proofs.Ytmlolnaannoifaa

/- Scenes that are valid. -/
namespace Go.Proofs.Ytmlolnaannoifaa

theorem h30 (t : Int) : (∀ p ∈ pp30 (t, ()), p) ∧ ff30 (t, ()) = ((decide (0 ≤ t ∧ t ≤ 10000), ()), ()) := by
  refine VT.H_in (P := fun w : W30 => w = ((decide (0 ≤ t ∧ t ≤ 10000), ()), ())) ?_
  unfold tr30
  simp only [VT.H_pre_iff, VT.H_ret_iff, (h43 _ _ _).2]
  exact ⟨(h43 _ _ _).1, trivial⟩
theorem h31 (v : VecD) : (∀ p ∈ pp31 (v, ()), p) ∧ ff31 (v, ()) = ((v, ()), ()) := VT.H_in (P := fun w : W31 => w = ((v, ()), ())) (VT.H_ret rfl)
def fin3 (v : VecD) : Bool := fin v.1 && (fin v.2.1 && fin v.2.2.1)
theorem h66 (v : VecD) : (∀ p ∈ pp66 (v, ()), p) ∧ ff66 (v, ()) = ((fin3 v, ()), ()) := by
  refine VT.H_in (P := fun w : W66 => w = ((fin3 v, ()), ())) ?_
  obtain ⟨q1, q2⟩ := h104 [v.1, v.2.1, v.2.2.1] (by simp)
  unfold tr66
  simp only [VT.H_pre_iff, VT.H_ret_iff, q2]
  exact ⟨q1, by simp [fin3]⟩
theorem Le3.fin {e : Nat} {v : VecD} (h : Le3 e v) (he : e ≤ 250) : fin3 v = true := by
  unfold fin3
  rw [fin_of_le h.1 he, fin_of_le h.2.1 he, fin_of_le h.2.2 he]; rfl

theorem names_bytes : ∀ x ∈ names, 1 ≤ x.size ∧ x.size ≤ 8 ∧ ∀ i, i < x.size → 97 ≤ bt x i ∧ bt x i ≤ 122 := by decide +kernel

theorem h67 (x : ByteArray) (hx : x ∈ names) : (∀ p ∈ pp67 (x, ()), p) ∧ ff67 (x, ()) = ((true, ()), ()) := by
  refine VT.H_in (P := fun w : W67 => w = ((true, ()), ())) ?_
  obtain ⟨n1, n2, n3⟩ := names_bytes x hx
  unfold tr67
  refine VT.H_loop (fun k : K67_r2 => k.1 = x.size ∧ 0 ≤ k.2.1 ∧ k.2.1 ≤ x.size) (fun k => (x.size - k.2.1).toNat) ⟨rfl, by simp, by simp⟩ ?_
  rintro ⟨n, i, u⟩ ⟨h1, h2, h3⟩
  simp only at h1 h2 h3
  rw [h1]
  unfold lp67_1
  simp only [VT.H_ite_iff, HL_iff, VT.H_step_iff, VT.H_exit_iff, VT.H_ret_iff, VT.H_pre_iff, VT.H_next_iff, decide_eq_true_eq]
  split
  · rename_i hi
    have hb := n3 i.toNat (by omega)
    rw [show ((i.toNat : Nat) : Int) = i by omega] at hb
    have e2 : IntKind.wrap .i64 (i + 1) = i + 1 := wrap_i64 (by omega) (by omega)
    rw [if_neg (by omega), if_neg (by omega), e2]
    exact ⟨h2, hi, h2, hi, ⟨trivial, by omega, by omega⟩, by omega⟩
  · rw [if_pos (by omega)]
    simp; omega

theorem h35 (t : ThingD) (ht : ThingOK t) : (∀ p ∈ pp35 (t, ()), p) ∧ ff35 (t, ()) = ((true, ()), ()) := by
  refine VT.H_in (P := fun w : W35 => w = ((true, ()), ())) ?_
  obtain ⟨nm, ns, ks, u⟩ := t
  obtain ⟨t1, t2, t3, t4⟩ := ht
  simp only at t1 t2 t3 t4
  have hl := t4.low
  have hh := t4.high
  unfold tr35
  refine VT.H_loop (fun k : K35_r2 => k.1 = ks.length ∧ 0 ≤ k.2.1 ∧ k.2.1 ≤ ks.length) (fun k => (ks.length - k.2.1).toNat) ⟨rfl, by simp, by simp⟩ ?_
  rintro ⟨n, i, u⟩ ⟨h1, h2, h3⟩
  simp only at h1 h2 h3
  rw [h1]
  unfold lp35_1
  have e : ∀ v : VecD, (v.1, v.2.1, v.2.2.1, ()) = v := fun _ => rfl
  simp only [VT.H_ite_iff, HL_iff, VT.H_step_iff, VT.H_exit_iff, VT.H_ret_iff, VT.H_pre_iff, VT.H_next_iff, decide_eq_true_eq, e, (h66 _).2, (h43 _ _ _).2]
  split
  · rename_i hi
    have hk := t4.each _ (getD_mem (d := (0, 0, 0, 0, ())) (show i.toNat < ks.length by omega))
    have hf := hk.2.2.le3.fin (by decide)
    have hr : 0 ≤ (ks.getD i.toNat (0, 0, 0, 0, ())).1 ∧ (ks.getD i.toNat (0, 0, 0, 0, ())).1 ≤ 10000 := by
      obtain ⟨k1, k2, k3⟩ := hk
      omega
    have e2 : IntKind.wrap .i64 (i + 1) = i + 1 := wrap_i64 (by omega) (by omega)
    rw [hf, e2]
    simp only [decide_eq_true hr, Bool.not_true, Bool.false_eq_true, if_false]
    refine ⟨h2, hi, (h43 _ _ _).1, (h66 _).1, ?_⟩
    split
    · rename_i hpos
      have e1 : IntKind.wrap .i64 (i - 1) = i - 1 := wrap_i64 (by omega) (by omega)
      have hrise := t4.rise (i.toNat - 1) (by omega)
      rw [show i.toNat - 1 + 1 = i.toNat by omega] at hrise
      rw [e1, show (i - 1).toNat = i.toNat - 1 by omega, if_neg (show ¬ (ks.getD i.toNat (0, 0, 0, 0, ())).1 ≤ (ks.getD (i.toNat - 1) (0, 0, 0, 0, ())).1 by have := hrise.1; simp only [dk] at this; omega)]
      exact ⟨by omega, by omega, ⟨trivial, by omega, by omega⟩, by omega⟩
    · exact ⟨⟨trivial, by omega, by omega⟩, by omega⟩
  · obtain ⟨a1, a2⟩ := h67 nm t1
    obtain ⟨b1, b2⟩ := h36 ns t2.small (by have := t2.high; omega)
    rw [a2, b2.2 t2]
    simp only [if_true]
    refine ⟨a1, b1, (h43 _ _ _).1, ?_⟩
    rw [decide_eq_true (by omega)]

theorem h11 (s : List ThingD) (hs : SceneOK s) (hl : s.length ≤ 3) : (∀ p ∈ pp11 ((s, ()), ()), p) ∧ ff11 ((s, ()), ()) = ((true, ()), ()) := by
  refine VT.H_in (P := fun w : W11 => w = ((true, ()), ())) ?_
  unfold tr11
  refine VT.H_loop (fun k : K11_r2 => k.1 = s.length ∧ 0 ≤ k.2.1 ∧ k.2.1 ≤ s.length) (fun k => (s.length - k.2.1).toNat) ⟨rfl, by simp, by simp⟩ ?_
  rintro ⟨n, i, u⟩ ⟨h1, h2, h3⟩
  simp only at h1 h2 h3
  rw [h1]
  unfold lp11_1
  simp only [VT.H_ite_iff, HL_iff, VT.H_step_iff, VT.H_exit_iff, VT.H_ret_iff, VT.H_pre_iff, VT.H_next_iff, decide_eq_true_eq]
  split
  · rename_i hi
    have hm := hs.each _ (getD_mem (d := (ByteArray.empty, [], [], ())) (show i.toNat < s.length by omega))
    obtain ⟨a1, a2⟩ := h35 _ hm
    have e2 : IntKind.wrap .i64 (i + 1) = i + 1 := wrap_i64 (by omega) (by omega)
    rw [a2, e2]
    simp only [Bool.not_true, Bool.false_eq_true, if_false]
    refine ⟨h2, hi, a1, ?_⟩
    split
    · rename_i hpos
      have e1 : IntKind.wrap .i64 (i - 1) = i - 1 := wrap_i64 (by omega) (by omega)
      have hm2 := hs.each _ (getD_mem (d := (ByteArray.empty, [], [], ())) (show (i - 1).toNat < s.length by omega))
      have hlt : rk (s.getD (i - 1).toNat (ByteArray.empty, [], [], ())) < rk (s.getD i.toNat (ByteArray.empty, [], [], ())) := by
        have := (List.pairwise_iff_getElem.1 hs.rise) (i - 1).toNat i.toNat (by omega) (by omega) (by omega)
        simpa [List.getD, show (i - 1).toNat < s.length by omega, show i.toNat - 1 < s.length by omega, show i.toNat < s.length by omega] using this
      rw [e1, thing_lt hm2 hm, decide_eq_true hlt]
      simp only [Bool.not_true, Bool.false_eq_true, if_false]
      exact ⟨by omega, by omega, h2, hi, ⟨trivial, by omega, by omega⟩, by omega⟩
    · exact ⟨⟨trivial, by omega, by omega⟩, by omega⟩
  · rw [decide_eq_true (by omega)]
end Go.Proofs.Ytmlolnaannoifaa

/- The shape of a scene at a time. -/
namespace Go.Proofs.Ytmlolnaannoifaa

noncomputable def plc (time : Int) (x : ThingD) : VecD := (ff32 (x, time, ())).1.1
noncomputable def moved (p : VecD) (ns : List NodeD) : List NodeD := ns ++ [(9, (ns.length : Int) - 1, 0, [p.1, p.2.1, p.2.2.1], ())]
noncomputable def placed (time : Int) (x : ThingD) : List NodeD := moved (plc time x) x.2.1

theorem moved_length (p : VecD) (ns : List NodeD) : (moved p ns).length = ns.length + 1 := by simp [moved]

theorem rule9 : (ruleT 9).2.1 = 1 := by decide
theorem moved_valid {p : VecD} {ns : List NodeD} (h : Valid ns) (hl : ns.length ≤ 13) (hp : fin3 p = true) : Valid (moved p ns) := by
  refine (valid_wrap h ?_ ?_ ?_).2 (by omega)
  · simp [kids, rule9]
  · unfold fin3 at hp
    simp only [Bool.and_eq_true] at hp
    have e1 : ((ruleT 9).1 = 3) := by decide
    have e2 : ((ruleT 9).2.2.2.1 = 0) := by decide
    have e3 : ruleB 9 = true := by decide
    unfold numsOk
    simp only [e1, e2, e3]
    simp [badS, hp.1, hp.2.1, hp.2.2]
  · simp [axOk, rule9]

/-- What the law counts. -/
def total (s : List ThingD) : Nat := (s.map fun x => x.2.1.length + 1).sum + (s.length - 1)

theorem size_placed (time : Int) (r : List ThingD) : sizeAll (r.map fun x => (placed time x, ())) = (r.map fun x => x.2.1.length + 1).sum + r.length := by
  induction r with
  | nil => rfl
  | cons x r ih =>
    simp only [sizeAll, List.map_cons, List.sum_cons, List.length_cons] at ih ⊢
    rw [ih]
    unfold placed
    rw [moved_length]
    omega

/-- What a scene's shape is. -/
def AtPost (time : Int) (s : List ThingD) (w : W10) : Prop := match s with
  | [] => w.1.2.1 = false
  | x :: r => (total s ≤ 16 → w = (((joinAll (placed time x) (r.map fun x => (placed time x, ())), ()), true, ()), ()) ∧ Valid (joinAll (placed time x) (r.map fun x => (placed time x, ())))) ∧ (¬ total s ≤ 16 → w.1.2.1 = false)

theorem placed_ok {time : Int} {x : ThingD} (h : ThingOK x) : fin3 (plc time x) = true ∧ Valid (placed time x) := by
  have := (h32 x time h.keys).2
  have hf : fin3 (plc time x) = true := Le3.fin this (by decide)
  exact ⟨hf, moved_valid h.shape h.size hf⟩

theorem h10 (s : List ThingD) (time : Int) (hs : SceneOK s) (hl : s.length ≤ 3) (ht : 0 ≤ time ∧ time ≤ 10000) : (∀ p ∈ pp10 ((s, ()), time, ()), p) ∧ AtPost time s (ff10 ((s, ()), time, ())) := by
  refine VT.H_in (P := AtPost time s) ?_
  obtain ⟨a1, a2⟩ := h11 s hs hl
  obtain ⟨b1, b2⟩ := h30 time
  unfold tr10
  simp only [VT.H_ite_iff, HL_iff, VT.H_step_iff, VT.H_exit_iff, VT.H_ret_iff, VT.H_pre_iff, VT.H_next_iff, a2, b2]
  rw [decide_eq_true ht]
  simp only [Bool.not_true, Bool.false_eq_true, if_false, decide_eq_true_eq]
  refine ⟨a1, b1, ?_⟩
  split
  · rename_i h0
    have : s = [] := List.length_eq_zero_iff.1 (by omega)
    subst this
    rfl
  · rename_i h0
    refine HL_in (fun k : K10_r5 => k.1 = s.length ∧ 0 ≤ k.2.1 ∧ k.2.1 ≤ s.length ∧ k.2.2.1 = (s.take k.2.1.toNat).map fun x => (placed time x, ())) (fun k => (s.length - k.2.1).toNat) ⟨rfl, by simp, by simp, by simp⟩ ?_
    rintro ⟨n, i, out, u⟩ ⟨h1, h2, h3, h4⟩
    simp only at h1 h2 h3 h4
    rw [h1]
    unfold lp10_1
    simp only [VT.H_ite_iff, HL_iff, VT.H_step_iff, VT.H_exit_iff, VT.H_ret_iff, VT.H_pre_iff, VT.H_next_iff, decide_eq_true_eq]
    split
    · rename_i hi
      have hi' : i.toNat < s.length := by omega
      obtain ⟨x, hx⟩ : ∃ x, s.getD i.toNat (ByteArray.empty, [], [], ()) = x := ⟨_, rfl⟩
      have hm := hs.each _ (getD_mem (d := (ByteArray.empty, [], [], ())) hi')
      simp only [hx] at hm ⊢
      have ex : ((x.1, x.2.1, x.2.2.1, ()) : ThingD) = x := rfl
      obtain ⟨c1, c2⟩ := h32 x time hm.keys
      obtain ⟨d1, d2⟩ := placed_ok (time := time) hm
      obtain ⟨f1, f2⟩ := h31 (ff32 (x, time, ())).1.1
      have ev : ∀ v : VecD, (v.1, v.2.1, v.2.2.1, ()) = v := fun _ => rfl
      simp only [ex, ev, f2]
      have hall : [(ff32 (x, time, ())).1.1.1, (ff32 (x, time, ())).1.1.2.1, (ff32 (x, time, ())).1.1.2.2.1].all fin = true := by
        unfold fin3 plc at d1
        simp only [Bool.and_eq_true] at d1
        simp [d1.1, d1.2.1, d1.2.2]
      have hsz := hm.size
      obtain ⟨g1, g2, g3⟩ := h33 x.2.1 [(ff32 (x, time, ())).1.1.1, (ff32 (x, time, ())).1.1.2.1, (ff32 (x, time, ())).1.1.2.2.1] hm.shape rfl hall
      have e2 : IntKind.wrap .i64 (i + 1) = i + 1 := wrap_i64 (by omega) (by omega)
      rw [g2 (by omega), e2]
      simp only [Bool.not_true, Bool.false_eq_true, if_false]
      refine ⟨h2, hi, c1, f1, g1, trivial, by rw [h4]; simp; omega, ⟨trivial, by omega, by omega, ?_⟩, by omega⟩
      rw [show (i + 1).toNat = i.toNat + 1 by omega, map_take_succ hi' (ByteArray.empty, [], [], ()), h4, hx]
      rfl
    · have hi : i.toNat = s.length := by omega
      rw [hi, List.take_length] at h4
      rw [h4]
      cases s with
      | nil => exact absurd rfl h0
      | cons x r =>
        have hsum := size_placed time r
        have hx := hs.each x (by simp)
        have htot : (placed time x).length + sizeAll (r.map fun x => (placed time x, ())) = total (x :: r) := by
          rw [hsum]
          unfold placed total
          rw [moved_length]
          simp
          omega
        obtain ⟨g1, g2, g3⟩ := h34 (placed time x) (r.map fun x => (placed time x, ())) (placed_ok hx).2 (fun b hb => by
          obtain ⟨y, hy, rfl⟩ := List.mem_map.1 hb
          exact (placed_ok (hs.each y (by simp [hy]))).2) (by simp at hl ⊢; omega)
        rw [htot] at g2 g3
        simp only [List.map_cons]
        refine ⟨trivial, g1, fun h => ?_, fun h => g3 h⟩
        obtain ⟨k1, k2⟩ := g2 h
        rw [k1]
        exact ⟨rfl, k2⟩
end Go.Proofs.Ytmlolnaannoifaa

/- Doubles by powers of two. -/
namespace Go.Proofs.Ytmlolnaannoifaa
open Ieee

/-- 'm * 2 ^ p' is at most '2 ^ B'. -/
def Bd (m : Nat) (p B : Int) : Prop := m = 0 ∨ ∃ k : Nat, (k : Int) + p ≤ B ∧ m ≤ 2 ^ k
theorem Bd.mono {m : Nat} {p B C : Int} (h : Bd m p B) (hc : B ≤ C) : Bd m p C := by
  rcases h with h | ⟨k, h1, h2⟩
  · exact .inl h
  · exact .inr ⟨k, by omega, h2⟩

def LeD (e : Nat) (x : Nat) : Prop := x % 9223372036854775808 ≤ e * 4503599627370496

theorem d_sw : double.signWeight = 9223372036854775808 := by decide
theorem d_bin : double.binade = 4503599627370496 := by decide
theorem d_inf : double.infRung = 9218868437227405312 := by decide
theorem d_lp : double.leastPlace = -1074 := by decide
theorem d_word (s : Bool) {r : Nat} (h : r < 9223372036854775808) : double.word s r % 9223372036854775808 = r := by
  unfold Format.word
  rw [d_sw]
  split <;> omega

/-- A double that is a number, at most '2 ^ B'. -/
def BD (B : Int) (x : Nat) : Prop := ∃ s m p, double.read x = .number s m p ∧ Bd m p B ∧ m < 2 ^ 53 ∧ -1074 ≤ p ∧ p ≤ 971
theorem BD.mono {B C : Int} {x : Nat} (h : BD B x) (hc : B ≤ C) : BD C x := by
  obtain ⟨s, m, p, h1, h2, h3⟩ := h
  exact ⟨s, m, p, h1, h2.mono hc, h3⟩

theorem LeD.read {e x : Nat} (h : LeD e x) (h1 : 1 ≤ e) (h2 : e ≤ 2046) : BD ((e : Int) - 1023) x := by
  unfold LeD at h
  unfold BD Format.read
  simp only [d_sw, d_bin, d_inf, d_lp]
  by_cases q : x % 9223372036854775808 < 4503599627370496
  · rw [if_pos q]
    exact ⟨_, _, _, rfl, .inr ⟨52, by omega, by omega⟩, by omega, by omega, by omega⟩
  · rw [if_neg q, if_pos (by omega)]
    have hq : x % 9223372036854775808 / 4503599627370496 ≤ e := by
      have := Nat.div_le_div_right (c := 4503599627370496) h
      rwa [Nat.mul_div_cancel _ (by decide)] at this
    have hm := Nat.mod_lt (x % 9223372036854775808) (show 0 < 4503599627370496 by decide)
    have hdm := Nat.div_add_mod (x % 9223372036854775808) 4503599627370496
    generalize x % 9223372036854775808 / 4503599627370496 = qq at hq hdm
    generalize x % 9223372036854775808 % 4503599627370496 = rr at hm hdm
    generalize x % 9223372036854775808 = r at h q hdm
    refine ⟨_, _, _, rfl, ?_, by omega, by omega, by omega⟩
    by_cases hqe : qq = e
    · have : rr = 0 := by omega
      exact .inr ⟨52, by omega, by omega⟩
    · exact .inr ⟨53, by omega, by omega⟩

theorem cut_pow {neg : Bool} {k drop : Nat} (h : k ≤ drop + 52) : Toward.even.cut neg (2 ^ k) drop ≤ 2 ^ 52 := by
  unfold Toward.cut
  simp only [shl_one, Nat.log2_two_pow]
  have hb : ∀ b : Bool, b.toNat ≤ 1 := by decide
  by_cases hd : drop ≤ k
  · rw [Nat.min_eq_left (by omega)]
    have e1 : 2 ^ k % 2 ^ drop = 0 := Nat.mod_eq_zero_of_dvd (Nat.pow_dvd_pow 2 hd)
    rw [e1, Nat.pow_div hd (by decide)]
    have := Nat.two_pow_pos drop
    have e2 : (decide (2 ^ drop < 2 * 0) || (2 ^ drop == 2 * 0 && 2 ^ (k - drop) % 2 == 1)) = false := by
      simp
    rw [e2]
    exact Nat.pow_le_pow_right (by decide) (by omega)
  · have e1 : 2 ^ k / 2 ^ min drop (k + 2) = 0 := Nat.div_eq_of_lt (Nat.pow_lt_pow_right (by decide) (by omega))
    rw [e1]
    exact Nat.le_trans (Nat.add_le_add_left (hb _) 0) (by decide)

theorem cut_le53 {neg : Bool} {m drop L : Nat} (hL : m.log2 = L) (hd : L ≤ drop + 52) : Toward.even.cut neg m drop ≤ 2 ^ 53 := by
  unfold Toward.cut
  simp only [hL, shl_one]
  have hlt : m < 2 ^ (L + 1) := by rw [← hL]; exact Nat.lt_log2_self
  have hq : m / 2 ^ min drop (L + 2) < 2 ^ 53 := by
    rw [Nat.div_lt_iff_lt_mul (Nat.two_pow_pos _)]
    refine Nat.lt_of_lt_of_le hlt ?_
    rw [← Nat.pow_add]
    exact Nat.pow_le_pow_right (by decide) (by omega)
  have hb : ∀ b : Bool, b.toNat ≤ 1 := by decide
  have := hb (decide (2 ^ min drop (L + 2) < 2 * (m % 2 ^ min drop (L + 2))) || (2 ^ min drop (L + 2) == 2 * (m % 2 ^ min drop (L + 2)) && m / 2 ^ min drop (L + 2) % 2 == 1))
  omega

theorem log2_mono {m k : Nat} (h0 : m ≠ 0) (h : m ≤ 2 ^ k) : m.log2 ≤ k := by
  have := (Nat.log2_lt (k := k + 1) h0).2 (Nat.lt_of_le_of_lt h (Nat.pow_lt_pow_right (by decide) (by omega)))
  omega

theorem shl_ne {m u : Nat} (h : m ≠ 0) : m <<< u ≠ 0 := by
  rw [Nat.shiftLeft_eq]
  exact Nat.mul_ne_zero h (Nat.ne_of_gt (Nat.two_pow_pos _))

theorem log2_shl {m u : Nat} (h : m ≠ 0) : (m <<< u).log2 = m.log2 + u := by
  rw [Nat.shiftLeft_eq]
  rw [Nat.log2_eq_iff (Nat.mul_ne_zero h (Nat.ne_of_gt (Nat.two_pow_pos _)))]
  have h1 := Nat.log2_self_le h
  have h2 : m < 2 ^ (m.log2 + 1) := Nat.lt_log2_self
  rw [Nat.pow_add, show m.log2 + u + 1 = m.log2 + 1 + u by omega, Nat.pow_add _ (m.log2 + 1)]
  exact ⟨Nat.mul_le_mul_right _ h1, Nat.mul_lt_mul_of_pos_right h2 (Nat.two_pow_pos _)⟩

theorem nearD {s : Bool} {m : Nat} {p B : Int} (h : Bd m p B) (h1 : -1021 ≤ B) (h2 : B ≤ 1023) : LeD (B + 1023).toNat (double.nearest s m p) := by
  unfold LeD Format.nearest
  split
  · rw [d_word s (by decide)]; omega
  · rename_i h0
    obtain ⟨k, hk, hm⟩ := h.resolve_left h0
    simp only [d_bin, d_inf, d_lp, show double.fractionBits = 52 from rfl]
    have hL := log2_mono h0 hm
    generalize hl : m.log2 = L at hL
    generalize hlast : max (p + (L : Int) - ((52 : Nat) : Int)) (-1074) = last
    have fin : ∀ kept X : Nat, kept ≤ X * 4503599627370496 → (last - -1074).toNat + X ≤ (B + 1023).toNat → double.word s (min ((last - -1074).toNat * 4503599627370496 + kept) 9218868437227405312) % 9223372036854775808 ≤ (B + 1023).toNat * 4503599627370496 := by
      intro kept X hkx hX
      have hz : min ((last - -1074).toNat * 4503599627370496 + kept) 9218868437227405312 ≤ (B + 1023).toNat * 4503599627370496 := by
        refine Nat.le_trans (Nat.min_le_left _ _) ?_
        generalize (last - -1074).toNat = Y at hX
        generalize (B + 1023).toNat = Z at hX
        omega
      have hz2 : min ((last - -1074).toNat * 4503599627370496 + kept) 9218868437227405312 ≤ 9218868437227405312 := Nat.min_le_right _ _
      generalize min ((last - -1074).toNat * 4503599627370496 + kept) 9218868437227405312 = z at hz hz2
      rw [d_word s (by omega)]
      exact hz
    by_cases hpow : m = 2 ^ k
    · have hLk : L = k := by rw [← hl, hpow, Nat.log2_two_pow]
      refine fin _ 1 ?_ (by omega)
      refine Nat.le_trans ?_ (show 2 ^ 52 ≤ 1 * 4503599627370496 by decide)
      rw [hpow, Nat.shiftLeft_eq, ← Nat.pow_add]
      exact cut_pow (by omega)
    · have hLk : L < k := by
        have := log2_lt h0 (show m < 2 ^ k by omega)
        omega
      refine fin _ 2 ?_ (by omega)
      refine Nat.le_trans ?_ (show 2 ^ 53 ≤ 2 * 4503599627370496 by decide)
      exact cut_le53 (log2_shl h0) (by omega)

theorem nearBD {s : Bool} {m : Nat} {p B : Int} (h : Bd m p B) (h1 : -1021 ≤ B) (h2 : B ≤ 1023) : BD B (double.nearest s m p) :=
  (LeD.read (nearD h h1 h2) (by omega) (by omega)).mono (by omega)
end Go.Proofs.Ytmlolnaannoifaa

/- What operations on doubles give, by powers of two. -/
namespace Go.Proofs.Ytmlolnaannoifaa
open Ieee

theorem Bd.scaled {m : Nat} {p B base : Int} (h : Bd m p B) (hb : base ≤ p) : m * 2 ^ (p - base).toNat ≤ 2 ^ (B - base).toNat := by
  rcases h with rfl | ⟨k, h1, h2⟩
  · simp
  · have := Nat.mul_le_mul_right (2 ^ (p - base).toNat) h2
    rw [← Nat.pow_add] at this
    exact Nat.le_trans this (Nat.pow_le_pow_right (by decide) (by omega))

theorem sumD {B : Int} {s t : Bool} {m n : Nat} {i j : Int} (hm : Bd m i B) (hn : Bd n j B) (h1 : -1022 ≤ B) (h2 : B ≤ 1022) :
    ∃ d, Datum.sum (.number s m i) (.number t n j) = some d ∧ BD (B + 1) (double.write d) := by
  refine ⟨_, rfl, ?_⟩
  refine nearBD (B := B + 1) ?_ (by omega) (by omega)
  have k1 := Int.natAbs_add_le (signed s m (i - min i j).toNat) (signed t n (j - min i j).toNat)
  rw [signed_abs, signed_abs] at k1
  have q1 := hm.scaled (base := min i j) (by omega)
  have q2 := hn.scaled (base := min i j) (by omega)
  by_cases hbase : min i j ≤ B
  · refine .inr ⟨(B - min i j).toNat + 1, by omega, ?_⟩
    rw [Nat.pow_succ, Nat.mul_two]
    exact Nat.le_trans k1 (Nat.add_le_add q1 q2)
  · refine .inl ?_
    have z : ∀ {m : Nat} {p : Int}, Bd m p B → min i j ≤ p → m = 0 := by
      intro m p h hp
      rcases h with h | ⟨k, h3, h4⟩
      · exact h
      · omega
    have z1 : m * 2 ^ (i - min i j).toNat = 0 := by rw [z hm (by omega), Nat.zero_mul]
    have z2 : n * 2 ^ (j - min i j).toNat = 0 := by rw [z hn (by omega), Nat.zero_mul]
    rw [z1, z2] at k1
    omega

theorem addD {B : Int} {x y : Nat} (hx : BD B x) (hy : BD B y) (h1 : -1022 ≤ B) (h2 : B ≤ 1022) : BD (B + 1) (fop .add .f64 x y) := by
  obtain ⟨s, m, p, r1, r2, r3⟩ := hx
  obtain ⟨t, n, q, u1, u2, u3⟩ := hy
  obtain ⟨d, k1, k2⟩ := sumD (s := s) (t := t) r2 u2 h1 h2
  have : fop .add .f64 x y = double.write d := by
    show (Option.map double.write ((double.read x).sum (double.read y))).getD _ = _
    rw [r1, u1, k1]; rfl
  rw [this]; exact k2
theorem subD {B : Int} {x y : Nat} (hx : BD B x) (hy : BD B y) (h1 : -1022 ≤ B) (h2 : B ≤ 1022) : BD (B + 1) (fop .sub .f64 x y) := by
  obtain ⟨s, m, p, r1, r2, r3⟩ := hx
  obtain ⟨t, n, q, u1, u2, u3⟩ := hy
  obtain ⟨d, k1, k2⟩ := sumD (s := s) (t := !t) r2 u2 h1 h2
  have : fop .sub .f64 x y = double.write d := by
    show (Option.map double.write ((double.read x).sum (double.read y).opposite)).getD _ = _
    rw [r1, u1]
    show (Option.map double.write (Datum.sum (.number s m p) (.number (!t) n q))).getD _ = _
    rw [k1]; rfl
  rw [this]; exact k2
theorem Bd.mul {m n : Nat} {i j B C : Int} (hm : Bd m i B) (hn : Bd n j C) : Bd (m * n) (i + j) (B + C) := by
  rcases hm with rfl | ⟨k, h1, h2⟩
  · exact .inl (by simp)
  rcases hn with rfl | ⟨l, h3, h4⟩
  · exact .inl (by simp)
  refine .inr ⟨k + l, by omega, ?_⟩
  rw [Nat.pow_add]
  exact Nat.mul_le_mul h2 h4
theorem mulD {B C : Int} {x y : Nat} (hx : BD B x) (hy : BD C y) (h1 : -1021 ≤ B + C) (h2 : B + C ≤ 1023) : BD (B + C) (fop .mul .f64 x y) := by
  obtain ⟨s, m, p, r1, r2, r3⟩ := hx
  obtain ⟨t, n, q, u1, u2, u3⟩ := hy
  have : fop .mul .f64 x y = double.nearest (s ^^ t) (m * n) (p + q) := by
    show (Option.map double.write ((double.read x).product (double.read y))).getD _ = _
    rw [r1, u1]; rfl
  rw [this]
  exact nearBD (r2.mul u2) h1 h2

/-- Divided by what is at least two. -/
theorem quoD {B : Int} {x y : Nat} {n a : Nat} {j : Int} (hx : BD B x) (hy : double.read y = .number false n j) (hn : 2 ^ a ≤ n) (ha : 1 ≤ (a : Int) + j) (h1 : -1021 ≤ B) (h2 : B ≤ 1023) : BD B (fop .quo .f64 x y) := by
  obtain ⟨s, m, p, r1, r2, r3, r4⟩ := hx
  have hn0 : n ≠ 0 := by have := Nat.two_pow_pos a; omega
  have hla : a ≤ n.log2 := (Nat.le_log2 hn0).2 hn
  have hlm : m.log2 ≤ 52 := by
    by_cases hm0 : m = 0
    · rw [hm0]; decide
    · have := log2_lt hm0 r3; omega
  generalize hmore : 54 + n.log2 - m.log2 = more
  have : fop .quo .f64 x y = double.nearest (s ^^ false) (2 * (m <<< more / n) + (m <<< more % n != 0).toNat) (p - j - more - 1) := by
    show (Option.map double.write ((double.read x).quotient 54 (double.read y))).getD _ = _
    rw [r1, hy]
    unfold Datum.quotient
    simp only [if_neg hn0, hmore]
    rfl
  rw [this]
  refine nearBD ?_ h1 h2
  rcases r2 with rfl | ⟨k, k1, k2⟩
  · refine .inl ?_
    simp
  · refine .inr ⟨k + more + 2 - a, by omega, ?_⟩
    have hb : ∀ b : Bool, b.toNat ≤ 1 := by decide
    have h3 : m <<< more ≤ 2 ^ (k + more) := by
      rw [Nat.shiftLeft_eq, Nat.pow_add]
      exact Nat.mul_le_mul_right _ k2
    have h4 : m <<< more / n ≤ 2 ^ (k + more - a) := by
      refine Nat.le_trans (Nat.div_le_div h3 hn (Nat.ne_of_gt (Nat.two_pow_pos a))) ?_
      rw [Nat.pow_div (by omega) (by decide)]
      exact Nat.le_refl _
    have h5 := hb (m <<< more % n != 0)
    rw [show k + more + 2 - a = k + more - a + 1 + 1 by omega, Nat.pow_succ, Nat.pow_succ]
    have := Nat.two_pow_pos (k + more - a)
    omega

theorem single_read (x : Nat) : (∃ s m p, single.read x = .number s m p ∧ m < 2 ^ 24 ∧ -149 ≤ p ∧ p ≤ 104) ∨ (∃ s, single.read x = .infinity s) ∨ ∃ s t, single.read x = .nan s t := by
  have c1 : single.signWeight = 2147483648 := by decide
  have c2 : single.binade = 8388608 := by decide
  have c3 : single.infRung = 2139095040 := by decide
  have c4 : single.leastPlace = -149 := by decide
  unfold Format.read
  simp only [c1, c2, c3, c4]
  by_cases q : x % 2147483648 < 8388608
  · rw [if_pos q]
    exact .inl ⟨_, _, _, rfl, by omega, by omega, by omega⟩
  · rw [if_neg q]
    by_cases q2 : x % 2147483648 < 2139095040
    · rw [if_pos q2]
      have hm := Nat.mod_lt (x % 2147483648) (show 0 < 8388608 by decide)
      have hdm := Nat.div_add_mod (x % 2147483648) 8388608
      exact .inl ⟨_, _, _, rfl, by omega, by omega, by omega⟩
    · rw [if_neg q2]
      by_cases q3 : x % 2147483648 = 2139095040
      · rw [if_pos q3]; exact .inr (.inl ⟨_, rfl⟩)
      · rw [if_neg q3]; exact .inr (.inr ⟨_, _, rfl⟩)

/-- What a float32 is as a float64. -/
theorem wide_number {x : Nat} {s : Bool} {m : Nat} {p : Int} (h : single.read x = .number s m p) (hm : m < 2 ^ 24) (hp : p ≤ 104) : fcvOk .f32 .f64 x ∧ fcv .f32 .f64 x = double.nearest s m p ∧ BD 128 (double.nearest s m p) := by
  have hbd : BD 128 (double.nearest s m p) := nearBD (.inr ⟨24, by omega, by omega⟩) (by decide) (by decide)
  have e : floatToFloatBits .f32 x .f64 = some (double.nearest s m p) := by
    unfold floatToFloatBits
    rw [if_neg (by decide)]
    have h' : FloatKind.f32.decode x = .number s m p := h
    rw [h']
    obtain ⟨t, n, q, r, -⟩ := hbd
    have : (FloatKind.f64.decode (FloatKind.f64.encode (.number s m p))).isInfinity = false := by
      show (double.read (double.nearest s m p)).isInfinity = false
      rw [r]; rfl
    simp only [this]
    rfl
  refine ⟨.inr (by rw [e]; rfl), ?_, hbd⟩
  unfold fcv
  rw [e]; rfl

theorem wide_inf {x : Nat} {s : Bool} (h : single.read x = .infinity s) : fcvOk .f32 .f64 x ∧ fcv .f32 .f64 x = double.word s double.infRung := by
  have e : floatToFloatBits .f32 x .f64 = some (double.word s double.infRung) := by
    unfold floatToFloatBits
    rw [if_neg (by decide)]
    have h' : FloatKind.f32.decode x = .infinity s := h
    rw [h']
    rfl
  exact ⟨.inr (by rw [e]; rfl), by unfold fcv; rw [e]; rfl⟩
theorem wide_nan {x : Nat} {s : Bool} {t : Nat} (h : single.read x = .nan s t) : fcvOk .f32 .f64 x ∧ fcv .f32 .f64 x = nanB .f64 := by
  have h' : FloatKind.f32.decode x = .nan s t := h
  refine ⟨.inl ?_, ?_⟩
  · show (single.read x).isNaN = true
    rw [h]; rfl
  · have e : floatToFloatBits .f32 x .f64 = none := by
      unfold floatToFloatBits
      rw [if_neg (by decide), h']
    unfold fcv
    rw [e]; rfl

theorem f1_wide (x : Nat) : fcvOk .f32 .f64 x := by
  rcases single_read x with ⟨s, m, p, h1, h2, h3, h4⟩ | ⟨s, h⟩ | ⟨s, t, h⟩
  · exact (wide_number h1 h2 h4).1
  · exact (wide_inf h).1
  · exact (wide_nan h).1

/-- A double that is no more than 2 ^ 126 may be told as a float32. -/
theorem narrow_ok {x : Nat} (h : BD 126 x) : fcvOk .f64 .f32 x := by
  obtain ⟨s, m, p, r1, r2, r3, r4⟩ := h
  have r1' : FloatKind.f64.decode x = .number s m p := r1
  refine .inr ?_
  unfold floatToFloatBits
  rw [if_neg (by decide), r1']
  have hle : Le 254 (single.nearest s m p) := by
    rcases r2 with rfl | ⟨k, k1, k2⟩
    · have e : single.nearest s 0 p = single.nearest s 0 0 := by unfold Format.nearest; rw [if_pos rfl, if_pos rfl]
      rw [e]
      exact (near_le (s := s) (m := 0) (p := 0) (b := 0) (B := 0) (by decide) (by decide) (by decide)).mono (by decide)
    · exact (near_le (s := s) (p := p) (b := k + 1) (B := 127) (Nat.lt_of_le_of_lt k2 (Nat.pow_lt_pow_right (by decide) (by omega))) (by omega) (by decide)).mono (by decide)
  obtain ⟨s', m', p', q1, -⟩ := read_le hle (by decide) (by decide)
  have : (FloatKind.f32.decode (FloatKind.f32.encode (.number s m p))).isInfinity = false := by
    show (single.read (single.nearest s m p)).isInfinity = false
    rw [q1]; rfl
  simp only [this]
  rfl
end Go.Proofs.Ytmlolnaannoifaa

/- Doubles that are told exactly; roots and the nearest whole numbers of float32s. -/
namespace Go.Proofs.Ytmlolnaannoifaa
open Ieee

theorem shl_shl (m u v : Nat) : m <<< u <<< v = m <<< (u + v) := by
  rw [Nat.shiftLeft_eq, Nat.shiftLeft_eq, Nat.shiftLeft_eq, Nat.mul_assoc, ← Nat.pow_add]

theorem cut_shl {neg : Bool} {m u d : Nat} (hm : m ≠ 0) (h : d ≤ u) : Toward.even.cut neg (m <<< u) d = m <<< (u - d) := by
  unfold Toward.cut
  simp only [shl_one, log2_shl hm]
  rw [Nat.min_eq_left (by omega)]
  have e0 : m <<< u = m <<< (u - d) * 2 ^ d := by
    rw [Nat.shiftLeft_eq, Nat.shiftLeft_eq, Nat.mul_assoc, ← Nat.pow_add, show u - d + d = u by omega]
  have hp := Nat.two_pow_pos d
  have e1 : m <<< u % 2 ^ d = 0 := by rw [e0]; exact Nat.mul_mod_left _ _
  have e2 : m <<< u / 2 ^ d = m <<< (u - d) := by rw [e0]; exact Nat.mul_div_cancel _ hp
  rw [e1, e2]
  have e3 : (decide (2 ^ d < 2 * 0) || (2 ^ d == 2 * 0 && m <<< (u - d) % 2 == 1)) = false := by simp
  rw [e3]; rfl

/-- What is nearest to a number that can be told exactly. -/
theorem near_exact (f : Format) (s : Bool) {m u : Nat} {q : Int} (hm : m ≠ 0) (h1 : (m.log2 : Int) ≤ f.fractionBits) (h2 : f.leastPlace ≤ q + u + m.log2 - f.fractionBits) :
    f.nearest s (m <<< u) q = f.word s (min ((q + u + m.log2 - f.fractionBits - f.leastPlace).toNat * f.binade + m <<< (f.fractionBits - m.log2)) f.infRung) := by
  unfold Format.nearest
  rw [if_neg (shl_ne hm)]
  simp only [log2_shl hm]
  have hlast : max (q + ((m.log2 + u : Nat) : Int) - f.fractionBits) f.leastPlace = q + u + m.log2 - f.fractionBits := by omega
  rw [hlast]
  have hk : Toward.even.cut s ((m <<< u) <<< (q - (q + u + m.log2 - f.fractionBits)).toNat) (q + u + m.log2 - f.fractionBits - q).toNat = m <<< (f.fractionBits - m.log2) := by
    rw [shl_shl]
    rw [cut_shl hm (by omega)]
    congr 1
    omega
  rw [hk]

theorem double_exact (s : Bool) {m u : Nat} {q : Int} (hm : m ≠ 0) (h1 : m.log2 ≤ 52) (h2 : -1022 ≤ q + u + m.log2) (h3 : q + u + m.log2 ≤ 1023) :
    double.read (double.nearest s (m <<< u) q) = .number s (m <<< (52 - m.log2)) (q + u + m.log2 - 52) := by
  have hf : double.fractionBits = 52 := rfl
  rw [near_exact double s hm (by rw [hf]; omega) (by rw [hf, d_lp]; omega), hf, d_bin, d_inf, d_lp]
  have hlo : 4503599627370496 ≤ m <<< (52 - m.log2) := by
    rw [Nat.shiftLeft_eq]
    have := Nat.mul_le_mul_right (2 ^ (52 - m.log2)) (Nat.log2_self_le hm)
    rw [← Nat.pow_add, show m.log2 + (52 - m.log2) = 52 by omega] at this
    exact this
  have hhi : m <<< (52 - m.log2) < 9007199254740992 := by
    rw [Nat.shiftLeft_eq]
    have := Nat.mul_lt_mul_of_pos_right (show m < 2 ^ (m.log2 + 1) from Nat.lt_log2_self) (Nat.two_pow_pos (52 - m.log2))
    rw [← Nat.pow_add, show m.log2 + 1 + (52 - m.log2) = 53 by omega] at this
    exact this
  generalize m <<< (52 - m.log2) = M at hlo hhi ⊢
  generalize hE : (q + u + m.log2 - ((52 : Nat) : Int) - -1074).toNat = E
  have hE2 : E ≤ 2045 := by omega
  rw [Nat.min_eq_left (by omega)]
  unfold Format.read
  simp only [d_sw, d_bin, d_inf, d_lp]
  have hw : double.word s (E * 4503599627370496 + M) = if s then 9223372036854775808 + (E * 4503599627370496 + M) else E * 4503599627370496 + M := by
    unfold Format.word; rw [d_sw]
  have hmod : double.word s (E * 4503599627370496 + M) % 9223372036854775808 = E * 4503599627370496 + M := d_word s (by omega)
  have hsg : (double.word s (E * 4503599627370496 + M) / 9223372036854775808 % 2 == 1) = s := by
    rw [hw]
    cases s with
    | true =>
      simp only [if_true]
      rw [show (9223372036854775808 + (E * 4503599627370496 + M)) / 9223372036854775808 = 1 by omega]
      rfl
    | false =>
      simp only [Bool.false_eq_true, if_false]
      rw [show (E * 4503599627370496 + M) / 9223372036854775808 = 0 by omega]
      rfl
  rw [hmod, hsg, if_neg (by omega), if_pos (by omega)]
  have e1 : (E * 4503599627370496 + M) / 4503599627370496 = E + 1 := by omega
  have e2 : (E * 4503599627370496 + M) % 4503599627370496 = M - 4503599627370496 := by omega
  have e3 : 4503599627370496 + (M - 4503599627370496) = M := by omega
  have e4 : -1074 + ((E + 1 - 1 : Nat) : Int) = q + u + m.log2 - 52 := by omega
  rw [e1, e2, e3, e4]

theorem zero_read (s : Bool) (p : Int) : double.nearest s 0 p = double.word s 0 := by
  unfold Format.nearest; rw [if_pos rfl]
theorem zero_BD (s : Bool) (p : Int) {B : Int} (h1 : -1021 ≤ B) (h2 : B ≤ 1023) : BD B (double.nearest s 0 p) := nearBD (.inl rfl) h1 h2

theorem nan_ok {x : Nat} (h : isNaNB .f64 x = true) : fcvOk .f64 .f32 x := .inl h
theorem inf_ok {x : Nat} {s : Bool} (h : double.read x = .infinity s) : fcvOk .f64 .f32 x := by
  have h' : FloatKind.f64.decode x = .infinity s := h
  refine .inr ?_
  unfold floatToFloatBits
  rw [if_neg (by decide), h']
  rfl
theorem inf_read (s : Bool) : double.read (double.word s double.infRung) = .infinity s := by cases s <;> decide
theorem nan_is : isNaNB .f64 (nanB .f64) = true := by decide

theorem rootFrom_lt (n : Nat) : ∀ todo root, Datum.rootFrom n todo root < root + 2 ^ todo
  | 0, root => by show root < root + 1; omega
  | todo + 1, root => by
    have e : Datum.rootFrom n (todo + 1) root = Datum.rootFrom n todo (if (root + 1 <<< todo) * (root + 1 <<< todo) ≤ n then root + 1 <<< todo else root) := rfl
    rw [e, shl_one, Nat.pow_succ]
    have hp := Nat.two_pow_pos todo
    split
    · have := rootFrom_lt n todo (root + 2 ^ todo)
      omega
    · have := rootFrom_lt n todo root
      omega

theorem sqrt_ok {y : Nat} (h : BD 128 y) : fcvOk .f64 .f32 (fsqrt y) := by
  obtain ⟨s, m, p, r1, r2, r3, r4, r5⟩ := h
  have e : fsqrt y = (Option.map double.write ((Datum.number s m p).root 54)).getD (nanB .f64) := by
    show (Option.map double.write ((double.read y).root 54)).getD _ = _
    rw [r1]
  rw [e]
  unfold Datum.root
  dsimp only
  by_cases hm : m = 0
  · subst hm
    rw [if_pos rfl]
    exact narrow_ok (zero_BD s p (by decide) (by decide))
  · rw [if_neg hm]
    cases s with
    | true => exact nan_ok nan_is
    | false =>
      simp only [Bool.false_eq_true, if_false]
      generalize hL : m.log2 = L
      have hL52 : L ≤ 52 := by have := log2_lt hm r3; omega
      have hLB : (L : Int) + p ≤ 128 := by
        obtain ⟨k, k1, k2⟩ := r2.resolve_left hm
        have := log2_mono hm k2
        omega
      generalize hmore : 2 * 54 - L + ((p - ((2 * 54 - L : Nat) : Int)) % 2).toNat = more
      generalize hn : m <<< more = n
      have hln : n.log2 = L + more := by rw [← hn, log2_shl hm, hL]
      rw [hln]
      have hw := rootFrom_lt n ((L + more) / 2 + 1) 0
      generalize Datum.rootFrom n ((L + more) / 2 + 1) 0 = whole at hw ⊢
      have hb : ∀ b : Bool, b.toNat ≤ 1 := by decide
      have hs := hb (whole * whole != n)
      refine narrow_ok (BD.mono (nearBD (s := false) (B := 70) (.inr ⟨(L + more) / 2 + 2, ?_, ?_⟩) (by decide) (by decide)) (by decide))
      · omega
      · rw [Nat.pow_succ]
        omega

theorem f2_sqrt (x : Nat) : fcvOk .f64 .f32 (fsqrt (fcv .f32 .f64 x)) := by
  rcases single_read x with ⟨s, m, p, h1, h2, h3, h4⟩ | ⟨s, h⟩ | ⟨s, t, h⟩
  · obtain ⟨-, e, b⟩ := wide_number h1 h2 h4
    rw [e]; exact sqrt_ok b
  · rw [(wide_inf h).2]
    cases s
    · exact inf_ok (s := false) (by decide)
    · exact nan_ok (by decide)
  · rw [(wide_nan h).2]
    exact nan_ok (by decide)

theorem single_fits {s : Bool} {m : Nat} {p : Int} (h0 : m ≠ 0) (hm : m < 2 ^ 24) (hp0 : 0 ≤ p) (hp : p ≤ 104) : (single.read (single.nearest s m p)).isInfinity = false := by
  have hf : single.fractionBits = 23 := rfl
  have c1 : single.signWeight = 2147483648 := by decide
  have c2 : single.binade = 8388608 := by decide
  have c3 : single.infRung = 2139095040 := by decide
  have c4 : single.leastPlace = -149 := by decide
  have hL := log2_lt h0 hm
  have he := near_exact single s (m := m) (u := 0) (q := p) h0 (by rw [hf]; omega) (by rw [hf, c4]; omega)
  rw [Nat.shiftLeft_zero] at he
  rw [he, hf, c2, c3, c4]
  have hhi : m <<< (23 - m.log2) < 16777216 := by
    rw [Nat.shiftLeft_eq]
    have := Nat.mul_lt_mul_of_pos_right (show m < 2 ^ (m.log2 + 1) from Nat.lt_log2_self) (Nat.two_pow_pos (23 - m.log2))
    rw [← Nat.pow_add, show m.log2 + 1 + (23 - m.log2) = 24 by omega] at this
    exact this
  generalize m <<< (23 - m.log2) = M at hhi ⊢
  generalize hE : (p + ((0 : Nat) : Int) + m.log2 - ((23 : Nat) : Int) - -149).toNat = E
  have hE2 : E ≤ 253 := by omega
  rw [Nat.min_eq_left (by omega)]
  have hmod : single.word s (E * 8388608 + M) % 2147483648 = E * 8388608 + M := by
    unfold Format.word
    rw [c1]
    split <;> omega
  have hle : E * 8388608 + M < 2139095040 := by omega
  unfold Format.read
  simp only [c1, c2, c3, c4]
  rw [hmod]
  split
  all_goals first
    | rfl
    | (rw [if_pos hle]; rfl)

theorem even_ok {s : Bool} {m : Nat} {p : Int} (hm : m < 2 ^ 24) (hp1 : -149 ≤ p) (hp : p ≤ 104) : fcvOk .f64 .f32 (fint .even (double.nearest s m p)) := by
  by_cases h0 : m = 0
  · subst h0
    rw [zero_read]
    cases s
    · exact narrow_ok ⟨false, 0, -1074, by decide, .inl rfl, by decide, by decide, by decide⟩
    · exact narrow_ok ⟨true, 0, -1074, by decide, .inl rfl, by decide, by decide, by decide⟩
  · have hL := log2_lt h0 hm
    have hr := double_exact s (m := m) (u := 0) (q := p) h0 (by omega) (by omega) (by omega)
    rw [Nat.shiftLeft_zero] at hr
    have hr' : FloatKind.f64.decode (double.nearest s m p) = .number s (m <<< (52 - m.log2)) (p + ((0 : Nat) : Int) + m.log2 - 52) := hr
    unfold fint
    have hn : isNaNB .f64 (double.nearest s m p) = false := by
      show (double.read _).isNaN = false
      rw [hr]; rfl
    rw [hn]
    simp only [Bool.false_eq_true, if_false]
    rw [hr']
    unfold Datum.integral
    simp only
    by_cases hpos : 0 < p + m.log2 - 52
    · have e1 : (-(p + ((0 : Nat) : Int) + m.log2 - 52)).toNat = 0 := by omega
      have e2 : (p + ((0 : Nat) : Int) + m.log2 - 52).toNat = (p + m.log2 - 52).toNat := by omega
      rw [e1, e2, shl_shl, cut_shl h0 (Nat.zero_le _), Nat.sub_zero, show 52 - m.log2 + (p + m.log2 - 52).toNat = p.toNat by omega]
      show fcvOk .f64 .f32 (double.nearest s (m <<< p.toNat) 0)
      have hr2 := double_exact s (m := m) (u := p.toNat) (q := 0) h0 (by omega) (by omega) (by omega)
      have hr2' : FloatKind.f64.decode (double.nearest s (m <<< p.toNat) 0) = .number s (m <<< (52 - m.log2)) (0 + p.toNat + m.log2 - 52) := hr2
      refine .inr ?_
      unfold floatToFloatBits
      rw [if_neg (by decide), hr2']
      have hs : single.nearest s (m <<< (52 - m.log2)) (0 + p.toNat + m.log2 - 52) = single.nearest s m p := by
        have hf : single.fractionBits = 23 := rfl
        have c4 : single.leastPlace = -149 := by decide
        have a1 := near_exact single s (m := m) (u := 52 - m.log2) (q := 0 + p.toNat + m.log2 - 52) h0 (by rw [hf]; omega) (by rw [hf, c4]; omega)
        have a2 := near_exact single s (m := m) (u := 0) (q := p) h0 (by rw [hf]; omega) (by rw [hf, c4]; omega)
        rw [Nat.shiftLeft_zero] at a2
        rw [a1, a2]
        rw [show (0 + (p.toNat : Int) + m.log2 - 52 + ((52 - m.log2 : Nat) : Int) + m.log2 - single.fractionBits - single.leastPlace).toNat = (p + ((0 : Nat) : Int) + m.log2 - single.fractionBits - single.leastPlace).toNat by omega]
      have : (FloatKind.f32.decode (FloatKind.f32.encode (.number s (m <<< (52 - m.log2)) (0 + p.toNat + m.log2 - 52)))).isInfinity = false := by
        show (single.read (single.nearest s (m <<< (52 - m.log2)) (0 + p.toNat + m.log2 - 52))).isInfinity = false
        rw [hs]
        exact single_fits h0 hm (by omega) hp
      simp only [this]
      rfl
    · have e1 : (p + ((0 : Nat) : Int) + m.log2 - 52).toNat = 0 := by omega
      rw [e1, Nat.shiftLeft_zero]
      show fcvOk .f64 .f32 (double.nearest s (Toward.even.cut s (m <<< (52 - m.log2)) (-(p + ((0 : Nat) : Int) + m.log2 - 52)).toNat) 0)
      refine narrow_ok (BD.mono (nearBD (B := 53) (.inr ⟨53, by omega, ?_⟩) (by decide) (by decide)) (by decide))
      exact cut_le53 (log2_shl h0) (by omega)

theorem f3_even (x : Nat) : fcvOk .f64 .f32 (fint .even (fcv .f32 .f64 x)) := by
  rcases single_read x with ⟨s, m, p, h1, h2, h3, h4⟩ | ⟨s, h⟩ | ⟨s, t, h⟩
  · obtain ⟨-, e, b⟩ := wide_number h1 h2 h4
    rw [e]; exact even_ok h2 h3 h4
  · rw [(wide_inf h).2]
    cases s
    · exact inf_ok (s := false) (by decide)
    · exact inf_ok (s := true) (by decide)
  · rw [(wide_nan h).2]
    exact nan_ok (by decide)
end Go.Proofs.Ytmlolnaannoifaa

/- Signs, and what is left of a double behind its point. -/
namespace Go.Proofs.Ytmlolnaannoifaa
open Ieee

theorem read_mod {x y : Nat} {s : Bool} {m : Nat} {p : Int} (h : double.read x = .number s m p) (he : y % 9223372036854775808 = x % 9223372036854775808) : double.read y = .number (y / 9223372036854775808 % 2 == 1) m p := by
  unfold Format.read at h ⊢
  simp only [d_sw, d_bin, d_inf, d_lp] at h ⊢
  rw [he]
  by_cases q : x % 9223372036854775808 < 4503599627370496
  · rw [if_pos q] at h ⊢
    injection h with h1 h2 h3
    rw [h2, h3]
  · rw [if_neg q] at h ⊢
    by_cases q2 : x % 9223372036854775808 < 9218868437227405312
    · rw [if_pos q2] at h ⊢
      injection h with h1 h2 h3
      rw [h2, h3]
    · rw [if_neg q2] at h
      split at h <;> cases h

theorem BD.of_mod {B : Int} {x y : Nat} (h : BD B x) (he : y % 9223372036854775808 = x % 9223372036854775808) : BD B y := by
  obtain ⟨s, m, p, r1, r2⟩ := h
  exact ⟨_, m, p, read_mod r1 he, r2⟩

theorem negD {B : Int} {x : Nat} (h : BD B x) : BD B (fneg .f64 x) := by
  refine h.of_mod ?_
  show (x ^^^ 2 ^ 63) % 2 ^ 63 = x % 2 ^ 63
  rw [Nat.xor_mod_two_pow]
  simp

theorem abs_mod (x : Nat) : (ibits .andNot .u64 (x : Int) 9223372036854775808).toNat = x % 9223372036854775808 := by
  have e1 : (2 : Int) ^ IntKind.u64.bits = 18446744073709551616 := by decide
  have hs : IntKind.u64.signed = false := by decide
  unfold ibits IntKind.wrap
  simp only [e1, hs, Bool.false_and]
  have hb : (~~~ (BitVec.ofInt IntKind.u64.bits 9223372036854775808)).toNat = 2 ^ 63 - 1 := by decide
  have ha : (BitVec.ofInt IntKind.u64.bits (x : Int) &&& ~~~ (BitVec.ofInt IntKind.u64.bits 9223372036854775808)).toNat = x % 9223372036854775808 := by
    rw [BitVec.toNat_and, hb, Nat.and_two_pow_sub_one_eq_mod, BitVec.toNat_ofInt]
    have : ((x : Int) % ((2 ^ IntKind.u64.bits : Nat) : Int)).toNat = x % 18446744073709551616 := by
      have : ((2 ^ IntKind.u64.bits : Nat) : Int) = 18446744073709551616 := by decide
      rw [this]
      omega
    rw [this]
    omega
  rw [ha]
  simp
  omega

theorem abs_read {x : Nat} {s : Bool} {m : Nat} {p : Int} (h : double.read x = .number s m p) : double.read (x % 9223372036854775808) = .number false m p := by
  have := read_mod h (y := x % 9223372036854775808) (by omega)
  rw [this]
  have : x % 9223372036854775808 / 9223372036854775808 = 0 := by omega
  rw [this]; rfl

theorem compare_le {a b : Int} (h : a ≤ b) : (some (compare a b) == some Ordering.lt || some (compare a b) == some Ordering.eq) = true := by
  rcases Int.lt_or_eq_of_le h with h | h
  · simp [compare, compareOfLessAndEq, h]
  · subst h; simp [compare, compareOfLessAndEq]

/-- From 2 ^ 52 on a double is whole. -/
theorem big_whole {x : Nat} {m : Nat} {p : Int} (h : double.read x = .number false m p) (hm : 4503599627370496 ≤ m) (hp : 0 ≤ p) : fleq .f64 4841369599423283200 x = true := by
  have hr : double.read 4841369599423283200 = .number false 4503599627370496 0 := by decide
  unfold fleq fcmp
  have e : FloatKind.f64.format.order 4841369599423283200 x = some (compare (signed false 4503599627370496 (0 - min 0 p).toNat) (signed false m (p - min 0 p).toNat)) := by
    show (double.read 4841369599423283200).order (double.read x) = _
    rw [hr, h]; rfl
  rw [e]
  refine compare_le ?_
  rw [Int.min_eq_left hp]
  unfold signed
  simp only [Bool.false_eq_true, if_false]
  rw [Nat.shiftLeft_eq, Nat.shiftLeft_eq]
  have h1 := Nat.two_pow_pos (p - 0).toNat
  have h2 : m * 1 ≤ m * 2 ^ (p - 0).toNat := Nat.mul_le_mul_left _ h1
  rw [show ((0 : Int) - 0).toNat = 0 by decide, Nat.pow_zero]
  omega

theorem cut_zero (s : Bool) {m drop : Nat} : Toward.zero.cut s m drop = m / 2 ^ drop := by
  unfold Toward.cut
  simp only [shl_one, Bool.toNat_false, Nat.add_zero]
  by_cases h : drop ≤ m.log2 + 2
  · rw [Nat.min_eq_left h]
  · rw [Nat.min_eq_right (by omega)]
    have h1 : m < 2 ^ (m.log2 + 1) := Nat.lt_log2_self
    have h2 : 2 ^ (m.log2 + 1) ≤ 2 ^ (m.log2 + 2) := Nat.pow_le_pow_right (by decide) (by omega)
    have h3 : 2 ^ (m.log2 + 2) ≤ 2 ^ drop := Nat.pow_le_pow_right (by decide) (by omega)
    rw [Nat.div_eq_of_lt (by omega), Nat.div_eq_of_lt (by omega)]

theorem trunc_eq {x : Nat} {s : Bool} {m : Nat} {p : Int} (h : double.read x = .number s m p) (hp : p < 0) : fint .zero x = double.nearest s (m / 2 ^ (-p).toNat) 0 := by
  have hn : isNaNB .f64 x = false := by
    show (double.read x).isNaN = false
    rw [h]; rfl
  have h' : FloatKind.f64.decode x = .number s m p := h
  unfold fint
  rw [hn, h']
  simp only [Bool.false_eq_true, if_false]
  show double.nearest s (Toward.zero.cut s (m <<< p.toNat) (-p).toNat) 0 = _
  rw [show p.toNat = 0 by omega, Nat.shiftLeft_zero, cut_zero]

theorem signed_diff (s : Bool) {A B a b : Nat} (h : B * 2 ^ b ≤ A * 2 ^ a) : (signed s A a + signed (!s) B b).natAbs = A * 2 ^ a - B * 2 ^ b := by
  unfold signed
  rw [Nat.shiftLeft_eq, Nat.shiftLeft_eq]
  generalize A * 2 ^ a = X at h
  generalize B * 2 ^ b = Y at h
  cases s <;> simp <;> omega

/-- What is behind the point is at most one. -/
theorem rest_BD {x : Nat} {s : Bool} {m : Nat} {p : Int} (h : double.read x = .number s m p) (hm : m < 2 ^ 53) (hp : p < 0) (hp2 : -1074 ≤ p) :
    (feq .f64 (fint .zero x) 0 = false → BD 0 (fop .sub .f64 x (fint .zero x))) ∧ (feq .f64 (fint .zero x) 0 = true → BD 0 x) := by
  rw [trunc_eq h hp]
  by_cases hc : m / 2 ^ (-p).toNat = 0
  · have hlt : m < 2 ^ (-p).toNat := by
      rcases (Nat.div_eq_zero_iff).1 hc with h1 | h1
      · exact absurd h1 (Nat.ne_of_gt (Nat.two_pow_pos _))
      · exact h1
    have hx : BD 0 x := ⟨s, m, p, h, .inr ⟨(-p).toNat, by omega, Nat.le_of_lt hlt⟩, hm, by omega, by omega⟩
    refine ⟨fun hf => ?_, fun _ => hx⟩
    rw [hc, zero_read] at hf
    exfalso
    revert hf
    cases s <;> decide
  · generalize hcc : m / 2 ^ (-p).toNat = c at hc
    have hpp := Nat.two_pow_pos (-p).toNat
    have hc53 : c < 2 ^ 53 := by
      rw [← hcc]
      exact Nat.lt_of_le_of_lt (Nat.div_le_self _ _) hm
    have hL := log2_lt hc hc53
    have hr := double_exact s (m := c) (u := 0) (q := 0) hc (by omega) (by omega) (by omega)
    rw [Nat.shiftLeft_zero] at hr
    refine ⟨fun _ => ?_, fun hf => ?_⟩
    · have e : fop .sub .f64 x (double.nearest s c 0) = (Option.map double.write (Datum.sum (.number s m p) (.number (!s) (c <<< (52 - c.log2)) (0 + ((0 : Nat) : Int) + c.log2 - 52)))).getD (nanB .f64) := by
        show (Option.map double.write ((double.read x).sum (double.read (double.nearest s c 0)).opposite)).getD _ = _
        rw [h, hr]; rfl
      rw [e]
      generalize hp' : (0 + ((0 : Nat) : Int) + c.log2 - 52 : Int) = p'
      refine nearBD (B := 0) ?_ (by decide) (by decide)
      have hdm := Nat.div_add_mod m (2 ^ (-p).toNat)
      have hml := Nat.mod_lt m hpp
      rw [hcc] at hdm
      generalize m % 2 ^ (-p).toNat = rem at hdm hml
      have hA : m * 2 ^ (p - min p p').toNat = c * 2 ^ (- min p p').toNat + rem * 2 ^ (p - min p p').toNat := by
        rw [← hdm, Nat.add_mul, Nat.mul_comm (2 ^ (-p).toNat) c, Nat.mul_assoc, ← Nat.pow_add, show (-p).toNat + (p - min p p').toNat = (- min p p').toNat by omega]
      have hB : (c <<< (52 - c.log2)) * 2 ^ (p' - min p p').toNat = c * 2 ^ (- min p p').toNat := by
        rw [Nat.shiftLeft_eq, Nat.mul_assoc, ← Nat.pow_add, show 52 - c.log2 + (p' - min p p').toNat = (- min p p').toNat by omega]
      have hd := signed_diff s (A := m) (B := c <<< (52 - c.log2)) (a := (p - min p p').toNat) (b := (p' - min p p').toNat) (by rw [hA, hB]; omega)
      rw [hd, hA, hB]
      refine .inr ⟨(- min p p').toNat, by omega, ?_⟩
      rw [Nat.add_sub_cancel_left]
      have h1 : rem * 2 ^ (p - min p p').toNat ≤ 2 ^ (-p).toNat * 2 ^ (p - min p p').toNat := Nat.mul_le_mul_right _ (Nat.le_of_lt hml)
      rw [← Nat.pow_add, show (-p).toNat + (p - min p p').toNat = (- min p p').toNat by omega] at h1
      exact h1
    · exfalso
      have h0 : double.read 0 = .number false 0 (-1074) := by decide
      unfold feq fcmp at hf
      have e : FloatKind.f64.format.order (double.nearest s c 0) 0 = (Datum.number s (c <<< (52 - c.log2)) (0 + ((0 : Nat) : Int) + c.log2 - 52)).order (.number false 0 (-1074)) := by
        show (double.read (double.nearest s c 0)).order (double.read 0) = _
        rw [hr, h0]
      rw [e] at hf
      have hf2 : (some (compare (signed s (c <<< (52 - c.log2)) (0 + ((0 : Nat) : Int) + c.log2 - 52 - min (0 + ((0 : Nat) : Int) + c.log2 - 52) (-1074)).toNat) (signed false 0 (-1074 - min (0 + ((0 : Nat) : Int) + c.log2 - 52) (-1074)).toNat)) == some Ordering.eq) = true := hf
      generalize (0 + ((0 : Nat) : Int) + c.log2 - 52 - min (0 + ((0 : Nat) : Int) + c.log2 - 52) (-1074)).toNat = u at hf2
      generalize (-1074 - min (0 + ((0 : Nat) : Int) + c.log2 - 52) (-1074)).toNat = v at hf2
      have z : signed false 0 v = 0 := by unfold signed; simp
      rw [z] at hf2
      have hz : signed s (c <<< (52 - c.log2)) u = 0 := by
        generalize signed s (c <<< (52 - c.log2)) u = q at hf2
        simp [compare, compareOfLessAndEq] at hf2
        by_cases hq : q < 0
        · simp [hq] at hf2
        · by_cases hq2 : q = 0
          · exact hq2
          · simp [hq, hq2] at hf2
      have := congrArg Int.natAbs hz
      rw [signed_abs] at this
      have hne := shl_ne (u := 52 - c.log2) hc
      have hp3 := Nat.two_pow_pos u
      simp only [Int.natAbs_zero] at this
      rcases Nat.mul_eq_zero.1 this with h1 | h1
      · exact hne h1
      · omega
end Go.Proofs.Ytmlolnaannoifaa

/- The sine of turns always answers. -/
namespace Go.Proofs.Ytmlolnaannoifaa
open Ieee

def divisorOk (k : Int) : Bool := match double.read (FloatKind.nearest .f64 k) with
  | .number false n j => decide (4503599627370496 ≤ n) && decide (1 ≤ 52 + j)
  | _ => false
theorem divisor_read {k : Int} (h : divisorOk k = true) : ∃ n j, double.read (FloatKind.nearest .f64 k) = .number false n j ∧ 2 ^ 52 ≤ n ∧ 1 ≤ ((52 : Nat) : Int) + j := by
  unfold divisorOk at h
  split at h
  · rename_i n j e
    simp only [Bool.and_eq_true, decide_eq_true_eq] at h
    exact ⟨n, j, e, h.1, h.2⟩
  · cases h

theorem const_BD {B : Int} {x : Nat} (h : (match double.read x with | .number _ m p => decide (m = 2 ^ 52) && (decide (52 + p ≤ B) && (decide (-1074 ≤ p) && decide (p ≤ 971))) | _ => false) = true) : BD B x := by
  split at h
  · rename_i s m p e
    simp only [Bool.and_eq_true, decide_eq_true_eq] at h
    exact ⟨s, m, p, e, .inr ⟨52, h.2.1, Nat.le_of_eq h.1⟩, by rw [h.1]; decide, h.2.2.1, h.2.2.2⟩
  · cases h

theorem one_BD : BD 0 4607182418800017408 := const_BD (by decide)
theorem half_BD : BD 0 4602678819172646912 := const_BD (by decide)
theorem tau_BD : BD 3 4618760256179416344 := (LeD.read (e := 1026) (by unfold LeD; decide) (by decide) (by decide)).mono (by decide)

/-- The last part of the sine. -/
theorem sine_in (x : X147) (neg : Bool) (t : Nat) (ht : BD 6 t) (d : W147) : HL ((neg, t, fop .mul .f64 t t, 4607182418800017408, 8, ()) : K147_r19) d (lp147_1 pp138 ff138 pp176 ff176 pp177 ff177 pp178 ff178 x) (fun _ => True) := by
  refine HL_in (fun k : K147_r19 => BD 6 k.2.1 ∧ BD 12 k.2.2.1 ∧ 0 ≤ k.2.2.2.2.1 ∧ k.2.2.2.2.1 ≤ 8 ∧ BD (13 * (8 - k.2.2.2.2.1)) k.2.2.2.1) (fun k => k.2.2.2.2.1.toNat)
    ⟨ht, mulD ht ht (by decide) (by decide), by simp, by simp, one_BD.mono (show (0 : Int) ≤ 13 * (8 - 8) by decide)⟩ ?_
  rintro ⟨ng, a, b, acc, i, u⟩ ⟨g1, g2, g3, g4, g5⟩
  simp only at g1 g2 g3 g4 g5
  unfold lp147_1
  simp only [VT.H_ite_iff, HL_iff, VT.H_step_iff, VT.H_exit_iff, VT.H_ret_iff, VT.H_pre_iff, VT.H_next_iff, decide_eq_true_eq]
  split
  · rename_i hi
    have e1 : IntKind.wrap .i64 (2 * i) = 2 * i := wrap_i64 (by omega) (by omega)
    have e2 : IntKind.wrap .i64 (2 * i + 1) = 2 * i + 1 := wrap_i64 (by omega) (by omega)
    have e4 : IntKind.wrap .i64 (i - 1) = i - 1 := wrap_i64 (by omega) (by omega)
    have hdv : divisorOk (IntKind.wrap .i64 (2 * i * (2 * i + 1))) = true := by
      rcases (show i = 1 ∨ i = 2 ∨ i = 3 ∨ i = 4 ∨ i = 5 ∨ i = 6 ∨ i = 7 ∨ i = 8 by omega) with rfl | rfl | rfl | rfl | rfl | rfl | rfl | rfl <;> decide +kernel
    simp only [e1, e2, e4]
    obtain ⟨n, j, r1, r2, r3⟩ := divisor_read hdv
    refine ⟨⟨g1, g2, by omega, by omega, ?_⟩, by omega⟩
    have m1 := mulD g2 g5 (by omega) (by omega)
    have m2 := quoD m1 r1 r2 r3 (by omega) (by omega)
    have m3 := subD (one_BD.mono (show 0 ≤ 12 + 13 * (8 - i) by omega)) m2 (by omega) (by omega)
    exact m3.mono (by omega)
  · have m1 := mulD g1 g5 (by omega) (by omega)
    have m2 := m1.mono (show 6 + 13 * (8 - i) ≤ 126 by omega)
    split
    · exact ⟨narrow_ok (negD m2), trivial⟩
    · exact ⟨narrow_ok m2, trivial⟩

theorem fin_number {x : Nat} (h : fin x = true) : ∃ s m p, single.read x = .number s m p ∧ m < 2 ^ 24 ∧ -149 ≤ p ∧ p ≤ 104 := by
  rcases single_read x with h1 | ⟨s, h1⟩ | ⟨s, t, h1⟩
  · exact h1
  · exfalso
    unfold fin at h
    have e : fop .sub .f32 x x = nanB .f32 := by
      show (Option.map single.write ((single.read x).sum (single.read x).opposite)).getD _ = _
      rw [h1]
      cases s <;> rfl
    rw [e] at h
    revert h
    decide
  · exfalso
    unfold fin at h
    have e : fop .sub .f32 x x = nanB .f32 := by
      show (Option.map single.write ((single.read x).sum (single.read x).opposite)).getD _ = _
      rw [h1]
      rfl
    rw [e] at h
    revert h
    decide

/-- How a widened float32 is read. -/
theorem wide_read {s : Bool} {m : Nat} {p : Int} (hm : m < 2 ^ 24) (hp1 : -149 ≤ p) (hp : p ≤ 104) : ∃ t n q, double.read (double.nearest s m p) = .number t n q ∧ n < 2 ^ 53 ∧ -1074 ≤ q ∧ (0 ≤ q → 4503599627370496 ≤ n) := by
  by_cases h0 : m = 0
  · subst h0
    rw [zero_read]
    cases s
    · exact ⟨false, 0, -1074, by decide, by decide, by decide, by decide⟩
    · exact ⟨true, 0, -1074, by decide, by decide, by decide, by decide⟩
  · have hL := log2_lt h0 hm
    have hr := double_exact s (m := m) (u := 0) (q := p) h0 (by omega) (by omega) (by omega)
    rw [Nat.shiftLeft_zero] at hr
    have hlo : 4503599627370496 ≤ m <<< (52 - m.log2) := by
      rw [Nat.shiftLeft_eq]
      have := Nat.mul_le_mul_right (2 ^ (52 - m.log2)) (Nat.log2_self_le h0)
      rw [← Nat.pow_add, show m.log2 + (52 - m.log2) = 52 by omega] at this
      exact this
    have hhi : m <<< (52 - m.log2) < 2 ^ 53 := by
      rw [Nat.shiftLeft_eq]
      have := Nat.mul_lt_mul_of_pos_right (show m < 2 ^ (m.log2 + 1) from Nat.lt_log2_self) (Nat.two_pow_pos (52 - m.log2))
      rw [← Nat.pow_add, show m.log2 + 1 + (52 - m.log2) = 53 by omega] at this
      exact this
    exact ⟨_, _, _, hr, hhi, by omega, fun _ => hlo⟩

theorem h177 (x : Nat) (h : isNaNB .f64 x = false) : (∀ p ∈ pp177 (x, ()), p) ∧ ff177 (x, ()) = ((x % 9223372036854775808, ()), ()) := by
  refine VT.H_in (P := fun w : W177 => w = ((x % 9223372036854775808, ()), ())) ?_
  unfold tr177
  simp only [VT.H_pre_iff, VT.H_ret_iff]
  refine ⟨fun p hp => by rw [List.mem_singleton.1 hp]; exact h, fun p hp => by rw [List.mem_singleton.1 hp]; trivial, ?_⟩
  show (((ibits .andNot .u64 (x : Int) 9223372036854775808).toNat, ()), ()) = _
  rw [abs_mod]
theorem h178 (x : Nat) : (∀ p ∈ pp178 (x, ()), p) ∧ ff178 (x, ()) = ((fint .zero x, ()), ()) := by
  refine VT.H_in (P := fun w : W178 => w = ((fint .zero x, ()), ())) ?_
  unfold tr178
  simp only [VT.H_pre_iff, VT.H_ret_iff]
  exact ⟨fun p hp => by rw [List.mem_singleton.1 hp]; trivial, rfl⟩

theorem f4_sine (x : Nat) : ∀ p ∈ pp147 (x, ()), p := by
  refine (VT.H_in (P := fun _ : W147 => True) ?_).1
  obtain ⟨a1, a2⟩ := h138 x
  unfold tr147
  simp only [VT.H_ite_iff, HL_iff, VT.H_step_iff, VT.H_ret_iff, VT.H_pre_iff, a2]
  refine ⟨f1_wide x, a1, ?_⟩
  cases hf : fin x with
  | false =>
    simp only [Bool.not_false, if_true]
    refine ⟨?_, nan_ok (by decide), trivial⟩
    refine (VT.H_in (P := fun _ : W176 => True) ?_).1
    unfold tr176
    simp only [VT.H_pre_iff, VT.H_ret_iff]
    exact ⟨fun p hp => by rw [List.mem_singleton.1 hp]; trivial, trivial⟩
  | true =>
    simp only [Bool.not_true, Bool.false_eq_true, if_false]
    obtain ⟨s, m, p, h1, h2, h3, h4⟩ := fin_number hf
    obtain ⟨-, e, -⟩ := wide_number h1 h2 h4
    obtain ⟨t, n, q, r1, r2, r3, r4⟩ := wide_read (s := s) h2 h3 h4
    rw [e]
    generalize double.nearest s m p = y at r1
    have hn : isNaNB .f64 y = false := by
      show (double.read y).isNaN = false
      rw [r1]; rfl
    obtain ⟨b1, b2⟩ := h177 y hn
    obtain ⟨c1, c2⟩ := h178 y
    simp only [b2, c2]
    refine ⟨b1, ?_⟩
    split
    · trivial
    · rename_i hbig
      have hq : q < 0 := by
        by_cases hq : 0 ≤ q
        · exact absurd (big_whole (abs_read r1) (r4 hq) hq) hbig
        · omega
      obtain ⟨d1, d2⟩ := rest_BD r1 r2 hq r3
      refine ⟨c1, ?_⟩
      -- what follows, once for all
      have last : ∀ (z : Nat), BD 2 z → ∀ (neg : Bool) (d : W147) (f : Nat), BD 3 f → HL ((neg, fop .mul .f64 f 4618760256179416344, fop .mul .f64 (fop .mul .f64 f 4618760256179416344) (fop .mul .f64 f 4618760256179416344), 4607182418800017408, 8, ()) : K147_r19) d (lp147_1 pp138 ff138 pp176 ff176 pp177 ff177 pp178 ff178 (x, ())) (fun _ => True) :=
        fun z _ neg d f hf => sine_in (x, ()) neg _ (mulD hf tau_BD (by decide) (by decide)) d
      have h0 := last 0 (by exact ⟨false, 0, -1074, by decide, .inl rfl, by decide, by decide, by decide⟩)
      have half2 := half_BD.mono (show (0 : Int) ≤ 1 by decide)
      have half3 := half_BD.mono (show (0 : Int) ≤ 2 by decide)
      -- a rest z of at most 2 ^ 1
      have sub1 : ∀ z, BD 1 z → BD 2 (fop .sub .f64 z 4602678819172646912) := fun z hz => subD hz half2 (by decide) (by decide)
      have sub2 : ∀ z, BD 2 z → BD 3 (fop .sub .f64 4602678819172646912 z) := fun z hz => subD half3 hz (by decide) (by decide)
      have add1 : ∀ z, BD 0 z → BD 1 (fop .add .f64 z 4607182418800017408) := fun z hz => addD hz one_BD (by decide) (by decide)
      cases hfe : feq .f64 (fint .zero y) 0 with
      | false =>
        have hz := d1 hfe
        simp only [Bool.not_false, if_true]
        generalize fop .sub .f64 y (fint .zero y) = z at hz
        have hz1 := hz.mono (show (0 : Int) ≤ 1 by decide)
        have hz2 := hz.mono (show (0 : Int) ≤ 2 by decide)
        have hz3 := hz.mono (show (0 : Int) ≤ 3 by decide)
        repeat' split
        all_goals first
          | exact h0 _ _ _ (sub2 _ (sub1 _ (add1 _ hz)))
          | exact h0 _ _ _ ((sub1 _ (add1 _ hz)).mono (by decide))
          | exact h0 _ _ _ (sub2 _ ((add1 _ hz).mono (by decide)))
          | exact h0 _ _ _ ((add1 _ hz).mono (by decide))
          | exact h0 _ _ _ (sub2 _ (sub1 _ hz1))
          | exact h0 _ _ _ ((sub1 _ hz1).mono (by decide))
          | exact h0 _ _ _ (sub2 _ hz2)
          | exact h0 _ _ _ hz3
      | true =>
        have hz := d2 hfe
        simp only [Bool.not_true, Bool.false_eq_true, if_false]
        have hz1 := hz.mono (show (0 : Int) ≤ 1 by decide)
        have hz2 := hz.mono (show (0 : Int) ≤ 2 by decide)
        have hz3 := hz.mono (show (0 : Int) ≤ 3 by decide)
        clear c1 c2 b1 b2 d1 d2 hbig
        generalize y = z at hz hz1 hz2 hz3
        repeat' split
        all_goals first
          | exact h0 _ _ _ (sub2 _ (sub1 _ (add1 _ hz)))
          | exact h0 _ _ _ ((sub1 _ (add1 _ hz)).mono (by decide))
          | exact h0 _ _ _ (sub2 _ ((add1 _ hz).mono (by decide)))
          | exact h0 _ _ _ ((add1 _ hz).mono (by decide))
          | exact h0 _ _ _ (sub2 _ (sub1 _ hz1))
          | exact h0 _ _ _ ((sub1 _ hz1).mono (by decide))
          | exact h0 _ _ _ (sub2 _ hz2)
          | exact h0 _ _ _ hz3
end Go.Proofs.Ytmlolnaannoifaa

/- What a node's distance asks. -/
namespace Go.Proofs.Ytmlolnaannoifaa

theorem saf141 (x : Nat) : ∀ p ∈ pp141 (x, ()), p := by
  refine (VT.H_in (P := fun _ : W141 => True) ?_).1
  unfold tr141; simp only [VT.H_ite_iff, VT.H_ret_iff]; split <;> trivial
theorem saf142 (x y : Nat) : ∀ p ∈ pp142 (x, y, ()), p := by
  refine (VT.H_in (P := fun _ : W142 => True) ?_).1
  unfold tr142; simp only [VT.H_ite_iff, VT.H_ret_iff]; split <;> trivial
/-- The lesser. -/
def lesser (x y : Nat) : Nat := if flss .f32 y x = true then y else x
theorem h143 (x y : Nat) : (∀ p ∈ pp143 (x, y, ()), p) ∧ ff143 (x, y, ()) = ((lesser x y, ()), ()) := by
  refine VT.H_in (P := fun w : W143 => w = ((lesser x y, ()), ())) ?_
  unfold tr143 lesser; simp only [VT.H_ite_iff, VT.H_ret_iff]; split <;> rfl
theorem saf144 (x y : Nat) : ∀ p ∈ pp144 (x, y, ()), p := by
  refine (VT.H_in (P := fun _ : W144 => True) ?_).1
  unfold tr144; simp only [VT.H_pre_iff, VT.H_ret_iff]
  exact ⟨saf142 _ _, (h143 _ _).1, trivial⟩
theorem saf145 (a b : VecD) : ∀ p ∈ pp145 (a, b, ()), p := by
  refine (VT.H_in (P := fun _ : W145 => True) ?_).1
  unfold tr145; simp only [VT.H_ret_iff]
theorem saf146 (x y : Nat) : ∀ p ∈ pp146 (x, y, ()), p := by
  refine (VT.H_in (P := fun _ : W146 => True) ?_).1
  unfold tr146; simp only [VT.H_ite_iff, VT.H_ret_iff]; split <;> trivial
theorem h185 (x : Nat) : (∀ p ∈ pp185 (x, ()), p) ∧ ff185 (x, ()) = ((fsqrt x, ()), ()) := by
  refine VT.H_in (P := fun w : W185 => w = ((fsqrt x, ()), ())) ?_
  unfold tr185; simp only [VT.H_pre_iff, VT.H_ret_iff]
  exact ⟨fun p hp => by rw [List.mem_singleton.1 hp]; trivial, rfl⟩
theorem saf175 (x : Nat) : ∀ p ∈ pp175 (x, ()), p := by
  refine (VT.H_in (P := fun _ : W175 => True) ?_).1
  unfold tr175; simp only [VT.H_pre_iff, VT.H_ret_iff, VT.H_step_iff, (h185 _).2]
  exact ⟨f1_wide x, (h185 _).1, f2_sqrt x, trivial⟩
theorem saf140 (v : VecD) : ∀ p ∈ pp140 (v, ()), p := by
  refine (VT.H_in (P := fun _ : W140 => True) ?_).1
  unfold tr140; simp only [VT.H_pre_iff, VT.H_ret_iff]
  exact ⟨saf145 _ _, saf175 _, trivial⟩
theorem saf179 (x : Nat) : ∀ p ∈ pp179 (x, ()), p := by
  refine (VT.H_in (P := fun _ : W179 => True) ?_).1
  unfold tr179; simp only [VT.H_pre_iff, VT.H_ret_iff, VT.H_step_iff]
  exact ⟨f1_wide x, fun p hp => by rw [List.mem_singleton.1 hp]; trivial, f3_even x, trivial⟩
theorem saf148 (x y : Nat) : ∀ p ∈ pp148 (x, y, ()), p := by
  refine (VT.H_in (P := fun _ : W148 => True) ?_).1
  unfold tr148; simp only [VT.H_pre_iff, VT.H_ret_iff]
  exact ⟨saf179 _, trivial⟩
theorem saf118 (v : VecD) : ∀ p ∈ pp118 (v, ()), p := by
  refine (VT.H_in (P := fun _ : W118 => True) ?_).1
  unfold tr118; simp only [VT.H_ret_iff, VT.H_step_iff]
  decide
theorem saf31 (v : VecD) : ∀ p ∈ pp31 (v, ()), p := (VT.H_in (P := fun _ : W31 => True) (VT.H_ret trivial)).1
theorem val31 (v : VecD) : ff31 (v, ()) = ((v, ()), ()) := rfl

/-- A node that may be asked. -/
structure Fit (n : NodeD) : Prop where
  kind : 0 ≤ n.1 ∧ n.1 ≤ 16
  nums : (n.2.2.2.1.length : Int) = (ruleT n.1).1
  axis : (ruleT n.1).2.1 = 1 → 0 ≤ n.2.2.1 ∧ n.2.2.1 ≤ 2

theorem nodeOk.fit {i : Nat} {n : NodeD} (h : nodeOk i n) : Fit n := by
  obtain ⟨h1, h2, h3⟩ := h
  unfold numsOk ruleB at h1
  simp only [Bool.and_eq_true, decide_eq_true_eq] at h1
  refine ⟨h1.1, h1.2.1, fun h => ?_⟩
  unfold axOk at h2
  simp only [Bool.and_eq_true, Bool.or_eq_true, decide_eq_true_eq] at h2
  rcases h2.2 with h4 | h4 | h4
  · omega
  · omega
  · exact h4.2

theorem saf108 (n : NodeD) (v : VecD) (h : Fit n) (hk : (ruleT n.1).2.1 = 0) : ∀ p ∈ pp108 (n, v, ()), p := by
  refine (VT.H_in (P := fun _ : W108 => True) ?_).1
  obtain ⟨k, a, b, l, u⟩ := n
  obtain ⟨h1, h2, h3⟩ := h
  simp only at h1 h2 hk
  unfold tr108
  simp only [VT.H_pre_iff, VT.H_ret_iff, VT.H_step_iff, VT.H_ite_iff, decide_eq_true_eq]
  rcases kind_cases h1 with rfl | rfl | rfl | rfl | rfl | rfl | rfl | rfl | rfl | rfl | rfl | rfl | rfl | rfl | rfl | rfl | rfl
  all_goals first
    | exact absurd hk (by decide)
    | skip
  · have : (l.length : Int) = 1 := h2
    simp only [if_true]
    exact ⟨saf140 _, by decide, by omega, trivial⟩
  · have : (l.length : Int) = 3 := h2
    simp only [if_true, if_false, Int.reduceEq]
    exact ⟨saf141 _, by decide, by omega, saf141 _, by decide, by omega, saf141 _, by decide, by omega, saf142 _ _, saf142 _ _, saf142 _ _, saf140 _, saf142 _ _, saf142 _ _, (h143 _ _).1, trivial⟩
  · have : (l.length : Int) = 2 := h2
    simp only [if_true, if_false, Int.reduceEq]
    exact ⟨by decide, by omega, saf144 _ _, saf140 _, by decide, by omega, trivial⟩
  · have : (l.length : Int) = 2 := h2
    simp only [if_true, if_false, Int.reduceEq]
    exact ⟨saf140 _, by decide, by omega, saf140 _, by decide, by omega, trivial⟩
  · have : (l.length : Int) = 4 := h2
    simp only [if_true, if_false, Int.reduceEq]
    exact ⟨by decide, by omega, by decide, by omega, by decide, by omega, saf145 _ _, by decide, by omega, trivial⟩

theorem saf109 (n : NodeD) (x y : Nat) (h : Fit n) : ∀ p ∈ pp109 (n, x, y, ()), p := by
  refine (VT.H_in (P := fun _ : W109 => True) ?_).1
  obtain ⟨k, a, b, l, u⟩ := n
  obtain ⟨h1, h2, h3⟩ := h
  simp only at h1 h2
  unfold tr109
  simp only [VT.H_pre_iff, VT.H_ret_iff, VT.H_step_iff, VT.H_ite_iff, decide_eq_true_eq]
  rcases kind_cases h1 with rfl | rfl | rfl | rfl | rfl | rfl | rfl | rfl | rfl | rfl | rfl | rfl | rfl | rfl | rfl | rfl | rfl
  all_goals simp only [if_true, if_false, Int.reduceEq]
  · exact ⟨(h143 _ _).1, trivial⟩
  · exact ⟨saf142 _ _, trivial⟩
  · exact ⟨saf142 _ _, trivial⟩
  · have : (l.length : Int) = 1 := h2
    refine ⟨by decide, by omega, saf141 _, ?_⟩
    split
    · exact ⟨(h143 _ _).1, by decide, by omega, saf146 _ _, trivial⟩
    · exact ⟨(h143 _ _).1, trivial⟩
  · have : (l.length : Int) = 1 := h2
    exact ⟨by decide, by omega, trivial⟩
  · have : (l.length : Int) = 1 := h2
    exact ⟨by decide, by omega, trivial⟩
  · have : (l.length : Int) = 1 := h2
    exact ⟨saf141 _, by decide, by omega, trivial⟩

theorem saf14 (a b : VecD) : ∀ p ∈ pp14 (a, b, ()), p := (h14 a b).1

theorem saf110 (n : NodeD) (v : VecD) (h : Fit n) (hk : (ruleT n.1).2.1 = 1) : ∀ p ∈ pp110 (n, v, ()), p := by
  refine (VT.H_in (P := fun _ : W110 => True) ?_).1
  have hax := h.axis hk
  obtain ⟨k, a, b, l, u⟩ := n
  obtain ⟨h1, h2, h3⟩ := h
  simp only at h1 h2 hk hax
  have e1 : IntKind.wrap .i64 (b + 1) = b + 1 := wrap_i64 (by omega) (by omega)
  have e2 : IntKind.wrap .i64 (b + 2) = b + 2 := wrap_i64 (by omega) (by omega)
  have t1 := tmod_range (a := b + 1) (n := 3) (by omega) (by decide)
  have t2 := tmod_range (a := b + 2) (n := 3) (by omega) (by decide)
  unfold tr110
  simp only [VT.H_pre_iff, VT.H_ret_iff, VT.H_step_iff, VT.H_ite_iff, decide_eq_true_eq, e1, e2]
  generalize Int.tmod (b + 1) 3 = m1 at t1
  generalize Int.tmod (b + 2) 3 = m2 at t2
  rcases kind_cases h1 with rfl | rfl | rfl | rfl | rfl | rfl | rfl | rfl | rfl | rfl | rfl | rfl | rfl | rfl | rfl | rfl | rfl
  all_goals first
    | exact absurd hk (by decide)
    | simp only [if_true, if_false, Int.reduceEq]
  · have : (l.length : Int) = 3 := h2
    exact ⟨saf31 _, by decide, by decide, by decide, by omega, by decide, by omega, by decide, by omega, saf14 _ _, trivial⟩
  · have : (l.length : Int) = 1 := h2
    exact ⟨saf31 _, by decide, by decide, by decide, by omega, by decide, by omega, by decide, by omega, trivial⟩
  · have : (l.length : Int) = 3 := h2
    exact ⟨saf31 _, by decide, by decide, by decide, by omega, by decide, by omega, by decide, by omega, trivial⟩
  · have : (l.length : Int) = 1 := h2
    refine ⟨saf31 _, by decide, by decide, by decide, by omega, f4_sine _, by decide, by omega, f4_sine _, ?_⟩
    refine ⟨by omega, by omega, by omega, by omega, by omega, by omega, by omega, by omega, by omega, by omega, by omega, by omega, by omega, by omega, by omega, by omega, by omega, by omega, saf118 _, trivial⟩
  · exact ⟨saf31 _, by decide, by decide, by omega, by omega, by omega, saf141 _, by omega, by omega, by omega, saf118 _, trivial⟩
  · have : (l.length : Int) = 1 := h2
    exact ⟨saf31 _, by decide, by decide, by omega, by omega, by omega, by omega, by omega, by omega, by decide, by omega, saf148 _ _, saf141 _, by omega, by omega, by omega, saf118 _, trivial⟩
  · exact ⟨saf31 _, by decide, by decide, saf118 _, trivial⟩
  · exact ⟨saf31 _, by decide, by decide, saf118 _, trivial⟩
end Go.Proofs.Ytmlolnaannoifaa

/- The distance of a node, by recursion. -/
namespace Go.Proofs.Ytmlolnaannoifaa

theorem U_of {ρ : Type} {p : Prop} (h : ∀ q ∈ [p], q) : p := h p (List.mem_singleton.2 rfl)

/-- Two counts of rounds that both answer answer the same. -/
theorem uniq73 : ∀ (n m : Nat) (x : X73), (∀ p ∈ pk73 n x, p) → (∀ p ∈ pk73 m x, p) → fk73 n x = fk73 m x := by
  intro n
  induction n with
  | zero => intro m x h; exact absurd (h False (by simp [pk73, pf73])) id
  | succ n ih =>
    intro m x h h'
    cases m with
    | zero => exact absurd (h' False (by simp [pk73, pf73])) id
    | succ m =>
      have g : (tr73 pp70 ff70 (pk73 n) (fk73 n) pp108 ff108 pp109 ff109 pp110 ff110 x).U := h _ (List.mem_singleton.2 rfl)
      have g' : (tr73 pp70 ff70 (pk73 m) (fk73 m) pp108 ff108 pp109 ff109 pp110 ff110 x).U := h' _ (List.mem_singleton.2 rfl)
      show (tr73 pp70 ff70 (pk73 n) (fk73 n) pp108 ff108 pp109 ff109 pp110 ff110 x).W = (tr73 pp70 ff70 (pk73 m) (fk73 m) pp108 ff108 pp109 ff109 pp110 ff110 x).W
      have g1 : VT.H (tr73 pp70 ff70 (pk73 n) (fk73 n) pp108 ff108 pp109 ff109 pp110 ff110 x) (fun _ => True) := ⟨g, trivial⟩
      have g2 : VT.H (tr73 pp70 ff70 (pk73 m) (fk73 m) pp108 ff108 pp109 ff109 pp110 ff110 x) (fun _ => True) := ⟨g', trivial⟩
      clear g g' h h'
      unfold tr73 at g1 g2 ⊢
      simp only [VT.H_pre_iff, VT.H_ret_iff, VT.H_step_iff, VT.H_ite_iff, decide_eq_true_eq] at g1 g2
      simp only [VT.W_step, VT.W_pre, VT.W_ite, VT.W_ret, decide_eq_true_eq]
      obtain ⟨-, -, -, g1⟩ := g1
      obtain ⟨-, -, -, g2⟩ := g2
      by_cases c0 : ((ff70 (x.1.1.getD x.2.1.toNat (0, 0, 0, [], ()), ())).1.1.length : Int) = 0
      · rw [if_pos c0, if_pos c0]
      · rw [if_neg c0] at g1 g2 ⊢
        rw [if_neg c0]
        by_cases c1 : ((ff70 (x.1.1.getD x.2.1.toNat (0, 0, 0, [], ()), ())).1.1.length : Int) = 1
        · rw [if_pos c1] at g1 g2 ⊢
          rw [if_pos c1]
          rw [ih m _ g1.2.1 g2.2.1]
        · rw [if_neg c1] at g1 g2 ⊢
          rw [if_neg c1]
          rw [ih m _ g1.1 g2.1, ih m _ g1.2.1 g2.2.1]

theorem rec73 (n : Nat) (x : X73) (h : ∀ p ∈ pk73 n x, p) : (∀ p ∈ pp73 x, p) ∧ ff73 x = fk73 n x := by
  have he : ∃ n, ∀ p ∈ pk73 n x, p := ⟨n, h⟩
  refine ⟨fun p hp => by rw [List.mem_singleton.1 hp]; exact he, ?_⟩
  unfold ff73 recF
  rw [dif_pos he]
  exact uniq73 _ _ _ (Classical.choose_spec he) h

/-- A node's distance. -/
noncomputable def dist (ns : List NodeD) (i : Int) (p : VecD) : Nat := (ff73 ((ns, ()), i, p, ())).1.1
abbrev nd0 : NodeD := (0, 0, 0, [], ())

theorem asks73 (ns : List NodeD) (hn : nodesOk ns) : ∀ (n : Nat) (i : Int) (p : VecD), 0 ≤ i → i < n → i < ns.length → ∀ q ∈ pk73 n ((ns, ()), i, p, ()), q := by
  intro n
  induction n with
  | zero => intro i p h1 h2; exact absurd h2 (by omega)
  | succ n ih =>
    intro i p h1 h2 h3 q hq
    have : q = (tr73 pp70 ff70 (pk73 n) (fk73 n) pp108 ff108 pp109 ff109 pp110 ff110 ((ns, ()), i, p, ())).U := List.mem_singleton.1 hq
    rw [this]
    have hi : i.toNat < ns.length := by omega
    have hno := hn i.toNat hi
    have hfit := hno.fit
    have hkid := hno.2.2
    refine (show VT.H (tr73 pp70 ff70 (pk73 n) (fk73 n) pp108 ff108 pp109 ff109 pp110 ff110 ((ns, ()), i, p, ())) (fun _ => True) from ?_).1
    unfold tr73
    simp only [VT.H_pre_iff, VT.H_ret_iff, VT.H_step_iff, VT.H_ite_iff, decide_eq_true_eq, (h70 _).2]
    generalize ns.getD i.toNat (0, 0, 0, [], ()) = nd at hno hfit hkid
    have hlen := kids_length nd
    refine ⟨h1, h3, (h70 _).1, ?_⟩
    split
    · exact ⟨saf108 _ _ hfit (by omega), trivial⟩
    · split
      · have hc := hkid _ (kids_A (n := nd) (by omega))
        exact ⟨saf110 _ _ hfit (by omega), ih _ _ (by omega) (by omega) (by omega), saf109 _ _ _ hfit, trivial⟩
      · have hk : (ruleT nd.1).2.1 = 2 := by have := rule_kids nd.1; omega
        have hc := hkid _ (kids_A (n := nd) (by omega))
        have hd := hkid _ (kids_B (n := nd) (by omega))
        exact ⟨ih _ _ (by omega) (by omega) (by omega), ih _ _ (by omega) (by omega) (by omega), saf109 _ _ _ hfit, trivial⟩

/-- How a node's distance comes of its children's. -/
noncomputable def distOf (D : Int → VecD → Nat) (nd : NodeD) (p : VecD) : Nat :=
  if (ruleT nd.1).2.1 = 0 then (ff108 (nd, p, ())).1.1
  else if (ruleT nd.1).2.1 = 1 then (ff109 (nd, D nd.2.1 (ff110 (nd, p, ())).1.1, 0, ())).1.1
  else (ff109 (nd, D nd.2.1 p, D nd.2.2.1 p, ())).1.1

theorem dist_eq (ns : List NodeD) (hn : nodesOk ns) (i : Int) (p : VecD) (h1 : 0 ≤ i) (h2 : i < ns.length) :
    (∀ q ∈ pp73 ((ns, ()), i, p, ()), q) ∧ dist ns i p = distOf (dist ns) (ns.getD i.toNat nd0) p := by
  have hk := asks73 ns hn (i.toNat + 1) i p h1 (by omega) h2
  obtain ⟨r1, r2⟩ := rec73 _ _ hk
  refine ⟨r1, ?_⟩
  have hi : i.toNat < ns.length := by omega
  have hkid := (hn i.toNat hi).2.2
  have sub : ∀ (c : Int) (v : VecD), 0 ≤ c → c < i → fk73 i.toNat ((ns, ()), c, v, ()) = ff73 ((ns, ()), c, v, ()) := fun c v h3 h4 =>
    (rec73 _ _ (asks73 ns hn i.toNat c v h3 (by omega) (by omega))).2.symm
  unfold dist
  rw [r2]
  show (tr73 pp70 ff70 (pk73 i.toNat) (fk73 i.toNat) pp108 ff108 pp109 ff109 pp110 ff110 ((ns, ()), i, p, ())).W.1.1 = _
  unfold tr73 distOf
  simp only [VT.W_step, VT.W_pre, VT.W_ite, VT.W_ret, decide_eq_true_eq, (h70 _).2]
  generalize ns.getD i.toNat (0, 0, 0, [], ()) = nd at hkid ⊢
  have hlen := kids_length nd
  by_cases c0 : (ruleT nd.1).2.1 = 0
  · rw [if_pos (by omega), if_pos c0]
  · rw [if_neg (by omega), if_neg c0]
    have hc := hkid _ (kids_A (n := nd) (by have := rule_kids nd.1; omega))
    by_cases c1 : (ruleT nd.1).2.1 = 1
    · rw [if_pos (by omega), if_pos c1]
      have e := sub nd.2.1 (ff110 (nd, p, ())).1.1 (by omega) (by omega)
      exact congrArg (fun d : W73 => (ff109 (nd, d.1.1, 0, ())).1.1) e
    · rw [if_neg (by omega), if_neg c1]
      have hd := hkid _ (kids_B (n := nd) (by have := rule_kids nd.1; omega))
      have e1 := sub nd.2.1 p (by omega) (by omega)
      have e2 := sub nd.2.2.1 p (by omega) (by omega)
      exact (congrArg (fun d : W73 => (ff109 (nd, d.1.1, _, ())).1.1) e1).trans (congrArg (fun d : W73 => (ff109 (nd, _, d.1.1, ())).1.1) e2)

theorem f110_same (k a a' b : Int) (l : List Nat) (p : VecD) : ff110 ((k, a, b, l, ()), p, ()) = ff110 ((k, a', b, l, ()), p, ()) := by
  simp only [ff110, tr110, VT.W_step, VT.W_pre, VT.W_ite, VT.W_ret]
theorem f109_same (k a a' b b' : Int) (l : List Nat) (x y : Nat) : ff109 ((k, a, b, l, ()), x, y, ()) = ff109 ((k, a', b', l, ()), x, y, ()) := by
  simp only [ff109, tr109, VT.W_step, VT.W_pre, VT.W_ite, VT.W_ret]
end Go.Proofs.Ytmlolnaannoifaa

/- The distance of joined and moved shapes. -/
namespace Go.Proofs.Ytmlolnaannoifaa

theorem distOf_congr {D D' : Int → VecD → Nat} {nd : NodeD} {p : VecD} (h : ∀ c ∈ kids nd, ∀ v, D c v = D' c v) : distOf D nd p = distOf D' nd p := by
  unfold distOf
  split
  · rfl
  · have hA := kids_A (n := nd) (by have := rule_kids nd.1; omega)
    split
    · rw [h _ hA]
    · have hB := kids_B (n := nd) (by have := rule_kids nd.1; omega)
      rw [h _ hA, h _ hB]

theorem distOf_shift {D D' : Int → VecD → Nat} {nd : NodeD} {k : Int} {p : VecD} (h : ∀ c ∈ kids nd, ∀ v, D (c + k) v = D' c v) : distOf D (shift k nd) p = distOf D' nd p := by
  obtain ⟨kd, a, b, l, u⟩ := nd
  have hr := rule_kids kd
  unfold distOf
  show (if (ruleT kd).2.1 = 0 then (ff108 (shift k (kd, a, b, l, ()), p, ())).1.1 else if (ruleT kd).2.1 = 1 then _ else _) = _
  by_cases c0 : (ruleT kd).2.1 = 0
  · rw [if_pos c0, if_pos c0]
    unfold shift
    simp [c0]
  · rw [if_neg c0, if_neg c0]
    have hA := kids_A (n := (kd, a, b, l, ())) (show 0 < (ruleT kd).2.1 by omega)
    by_cases c1 : (ruleT kd).2.1 = 1
    · rw [if_pos c1, if_pos c1]
      unfold shift
      simp only [c1]
      simp only [show (0 : Int) < 1 by decide, if_true, show ¬ (1 : Int) < 1 by decide, if_false]
      rw [h _ hA, f109_same _ _ a _ b, f110_same _ _ a]
    · rw [if_neg c1, if_neg c1]
      have c2 : (ruleT kd).2.1 = 2 := by omega
      have hB := kids_B (n := (kd, a, b, l, ())) (show 1 < (ruleT kd).2.1 by omega)
      unfold shift
      simp only [c2]
      simp only [show (0 : Int) < 2 by decide, if_true, show (1 : Int) < 2 by decide]
      rw [h _ hA, h _ hB, f109_same _ _ a _ b]

theorem dist_prefix {a b : List NodeD} (ha : nodesOk a) (hab : nodesOk (a ++ b)) : ∀ (n : Nat) (i : Int) (p : VecD), 0 ≤ i → i < n → i < a.length → dist (a ++ b) i p = dist a i p := by
  intro n
  induction n with
  | zero => intro i p h1 h2; exact absurd h2 (by omega)
  | succ n ih =>
    intro i p h1 h2 h3
    rw [(dist_eq _ hab i p h1 (by simp; omega)).2, (dist_eq _ ha i p h1 h3).2]
    have hi : i.toNat < a.length := by omega
    have e : (a ++ b).getD i.toNat nd0 = a.getD i.toNat nd0 := by simp [List.getD, List.getElem?_append_left hi]
    rw [e]
    refine distOf_congr fun c hc v => ?_
    have := (ha i.toNat hi).2.2 c hc
    exact ih c v this.1 (by omega) (by omega)

theorem dist_shift {a b r : List NodeD} (hb : nodesOk b) (hab : nodesOk (a ++ b.map (shift a.length) ++ r)) : ∀ (n : Nat) (i : Int) (p : VecD), 0 ≤ i → i < n → i < b.length → dist (a ++ b.map (shift a.length) ++ r) (i + a.length) p = dist b i p := by
  intro n
  induction n with
  | zero => intro i p h1 h2; exact absurd h2 (by omega)
  | succ n ih =>
    intro i p h1 h2 h3
    rw [(dist_eq _ hab (i + a.length) p (by omega) (by simp; omega)).2, (dist_eq _ hb i p h1 h3).2]
    have hi : i.toNat < b.length := by omega
    have e : (a ++ b.map (shift a.length) ++ r).getD (i + a.length).toNat nd0 = shift a.length (b.getD i.toNat nd0) := by
      rw [show (i + a.length).toNat = a.length + i.toNat by omega]
      have h4 : a.length + i.toNat < (a ++ b.map (shift a.length)).length := by simp; omega
      simp only [List.getD]
      rw [List.getElem?_append_left h4, List.getElem?_append_right (by omega), Nat.add_sub_cancel_left]
      simp [hi]
    rw [e]
    refine distOf_shift fun c hc v => ?_
    have := (hb i.toNat hi).2.2 c hc
    exact ih c v this.1 (by omega) (by omega)

/-- A shape's distance at a point. -/
noncomputable def dAt (ns : List NodeD) (p : VecD) : Nat := dist ns ((ns.length : Int) - 1) p

theorem rule5 : (ruleT 5).2.1 = 2 := by decide
theorem joinS_ok {a b : List NodeD} (ha : nodesOk a) (hb : nodesOk b) (h1 : 1 ≤ a.length) (h2 : 1 ≤ b.length) : nodesOk (joinS a b) := by
  refine nodesOk_append.2 ⟨nodesOk_append.2 ⟨ha, shift_ok hb⟩, fun i hi => ?_⟩
  have : i = 0 := by simpa using hi
  subst this
  refine ⟨show numsOk 5 [] = true by decide, by simp [axOk, rule5], fun c hc => ?_⟩
  have hc' : c ∈ kids (5, (a.length : Int) - 1, (a.length : Int) + b.length - 1, [], ()) := hc
  simp only [kids, rule5] at hc'
  simp at hc'
  simp only [Nat.add_zero, List.length_append, List.length_map]
  omega

theorem v109_5 (n : NodeD) (x y : Nat) (h : n.1 = 5) : (ff109 (n, x, y, ())).1.1 = lesser x y := by
  simp only [ff109, tr109, VT.W_step, VT.W_pre, VT.W_ite, VT.W_ret, h, decide_eq_true_eq, if_true, (h143 _ _).2]
theorem v109_9 (n : NodeD) (x y : Nat) (h : n.1 = 9) : (ff109 (n, x, y, ())).1.1 = x := by
  simp only [ff109, tr109, VT.W_step, VT.W_pre, VT.W_ite, VT.W_ret, h, decide_eq_true_eq, if_true, if_false, Int.reduceEq]
theorem v110_9 (a b : Int) (x y z : Nat) (p : VecD) : (ff110 ((9, a, b, [x, y, z], ()), p, ())).1.1 = vsub p (x, y, z, ()) := by
  simp only [ff110, tr110, VT.W_step, VT.W_pre, VT.W_ite, VT.W_ret, decide_eq_true_eq, if_true, (h14 _ _).2]
  rfl

theorem dAt_joinS {a b : List NodeD} (ha : nodesOk a) (hb : nodesOk b) (h1 : 1 ≤ a.length) (h2 : 1 ≤ b.length) (p : VecD) : dAt (joinS a b) p = lesser (dAt a p) (dAt b p) := by
  have hj := joinS_ok ha hb h1 h2
  unfold dAt
  rw [joinS_length]
  rw [(dist_eq _ hj _ p (by omega) (by rw [joinS_length]; omega)).2]
  have e : (joinS a b).getD (((a.length + (b.length + 1) : Nat) : Int) - 1).toNat nd0 = (5, (a.length : Int) - 1, (a.length : Int) + b.length - 1, [], ()) := by
    rw [show (((a.length + (b.length + 1) : Nat) : Int) - 1).toNat = (a ++ b.map (shift a.length)).length by simp; omega]
    unfold joinS
    exact getD_snoc_eq
  rw [e]
  unfold distOf
  rw [if_neg (by rw [rule5]; decide), if_neg (by rw [rule5]; decide), v109_5 _ _ _ rfl]
  simp only
  have q1 : dist (joinS a b) ((a.length : Int) - 1) p = dist a ((a.length : Int) - 1) p := by
    have hj' := hj
    unfold joinS at hj' ⊢
    rw [List.append_assoc] at hj' ⊢
    exact dist_prefix ha hj' a.length _ p (by omega) (by omega) (by omega)
  have q2 : dist (joinS a b) ((a.length : Int) + b.length - 1) p = dist b ((b.length : Int) - 1) p := by
    have := dist_shift hb hj b.length ((b.length : Int) - 1) p (by omega) (by omega) (by omega)
    rw [show (b.length : Int) - 1 + a.length = (a.length : Int) + b.length - 1 by omega] at this
    exact this
  rw [q1, q2]

theorem dAt_moved {ns : List NodeD} {q : VecD} (h : nodesOk ns) (hm : nodesOk (moved q ns)) (h1 : 1 ≤ ns.length) (p : VecD) : dAt (moved q ns) p = dAt ns (vsub p q) := by
  unfold dAt
  rw [moved_length]
  rw [(dist_eq _ hm _ p (by omega) (by rw [moved_length]; omega)).2]
  have e : (moved q ns).getD (((ns.length + 1 : Nat) : Int) - 1).toNat nd0 = (9, (ns.length : Int) - 1, 0, [q.1, q.2.1, q.2.2.1], ()) := by
    rw [show (((ns.length + 1 : Nat) : Int) - 1).toNat = ns.length by omega]
    exact getD_snoc_eq
  rw [e]
  unfold distOf
  rw [if_neg (by rw [rule9]; decide), if_pos rule9, v109_9 _ _ _ rfl, v110_9]
  exact dist_prefix h hm ns.length ((ns.length : Int) - 1) _ (by omega) (by omega) (by omega)

theorem dAt_all (p : VecD) : ∀ (r : List (List NodeD × Unit)) (a : List NodeD), nodesOk a → 1 ≤ a.length → (∀ b ∈ r, nodesOk b.1 ∧ 1 ≤ b.1.length) → dAt (joinAll a r) p = r.foldl (fun d b => lesser d (dAt b.1 p)) (dAt a p)
  | [], a, _, _, _ => rfl
  | b :: r, a, h1, h2, h3 => by
    obtain ⟨b1, b2⟩ := h3 b (by simp)
    have := dAt_all p r (joinS a b.1) (joinS_ok h1 b1 h2 b2) (by rw [joinS_length]; omega) (fun c hc => h3 c (by simp [hc]))
    rw [dAt_joinS h1 b1 h2 b2] at this
    exact this

theorem h37 (ns : List NodeD) (p : VecD) (h : nodesOk ns) (h1 : 1 ≤ ns.length) (h2 : ns.length ≤ 1000) : (∀ q ∈ pp37 ((ns, ()), p, ()), q) ∧ (ff37 ((ns, ()), p, ())).1.1 = dAt ns p := by
  refine VT.H_in (P := fun w : W37 => w.1.1 = dAt ns p) ?_
  obtain ⟨a1, a2⟩ := h63 ns (by omega)
  obtain ⟨b1, b2⟩ := dist_eq ns h ((ns.length : Int) - 1) p (by omega) (by omega)
  unfold tr37
  simp only [VT.H_pre_iff, VT.H_ret_iff, a2]
  exact ⟨a1, b1, rfl⟩

theorem h12 (ns : List NodeD) (p : VecD) (h : Valid ns) : (∀ q ∈ pp12 ((ns, ()), p, ()), q) ∧ ff12 ((ns, ()), p, ()) = ((dAt ns p, true, ()), ()) := by
  refine VT.H_in (P := fun w : W12 => w = ((dAt ns p, true, ()), ())) ?_
  have hh := h.high
  obtain ⟨a1, a2⟩ := h36 ns h.small (by omega)
  obtain ⟨b1, b2⟩ := h37 ns p h.nodes h.low (by omega)
  unfold tr12
  simp only [VT.H_pre_iff, VT.H_ret_iff, VT.H_ite_iff, a2.2 h]
  simp only [Bool.not_true, Bool.false_eq_true, if_false]
  exact ⟨a1, b1, by rw [← b2]⟩
end Go.Proofs.Ytmlolnaannoifaa

/- The law of moved scenes. -/
namespace Go.Proofs.Ytmlolnaannoifaa

theorem h38 (x : Nat) : (∀ p ∈ pp38 (x, ()), p) ∧ ff38 (x, ()) = ((!feq .f32 x x, ()), ()) := VT.H_in (P := fun w : W38 => w = ((!feq .f32 x x, ()), ())) (VT.H_ret rfl)
theorem feq_notnan {x : Nat} (h : feq .f32 x x = true) : isNaNB .f32 x = false := by
  unfold feq fcmp at h
  unfold isNaNB
  cases hr : FloatKind.f32.format.read x with
  | nan s t => unfold Ieee.Format.order at h; rw [hr] at h; simp [Ieee.Datum.order] at h
  | infinity s => rfl
  | number s m e => rfl
theorem h15 (x : Nat) : (∀ p ∈ pp15 (x, x, ()), p) ∧ ff15 (x, x, ()) = ((true, ()), ()) := by
  refine VT.H_in (P := fun w : W15 => w = ((true, ()), ())) ?_
  obtain ⟨a1, a2⟩ := h38 x
  unfold tr15
  simp only [VT.H_pre_iff, VT.H_ret_iff, VT.H_ite_iff, a2]
  refine ⟨a1, ?_⟩
  cases hf : feq .f32 x x with
  | false =>
    simp only [Bool.not_false, if_true]
    exact ⟨a1, a1, trivial⟩
  | true =>
    simp only [Bool.not_true, Bool.false_eq_true, if_false]
    have hn := feq_notnan hf
    exact ⟨a1, fun p hp => by rw [List.mem_singleton.1 hp]; exact hn, fun p hp => by rw [List.mem_singleton.1 hp]; exact hn, by simp⟩

theorem h13 (t : ThingD) (time : Int) (ht : ThingOK t) (h : 0 ≤ time ∧ time ≤ 10000) : (∀ p ∈ pp13 (t, time, ()), p) ∧ ff13 (t, time, ()) = ((plc time t, true, ()), ()) := by
  refine VT.H_in (P := fun w : W13 => w = ((plc time t, true, ()), ())) ?_
  obtain ⟨a1, a2⟩ := h35 t ht
  obtain ⟨b1, b2⟩ := h30 time
  have et : ((t.1, t.2.1, t.2.2.1, ()) : ThingD) = t := rfl
  unfold tr13
  simp only [VT.H_pre_iff, VT.H_ret_iff, VT.H_ite_iff, et, a2, b2]
  rw [decide_eq_true h]
  simp only [Bool.not_true, Bool.false_eq_true, if_false]
  exact ⟨a1, b1, (h32 t time ht.keys).1, rfl⟩

/-- The least of the distances. -/
noncomputable def leastOf (time : Int) (p : VecD) : List ThingD → Nat
  | [] => 0
  | x :: r => r.foldl (fun d y => lesser d (dAt (placed time y) p)) (dAt (placed time x) p)
theorem leastOf_one (time : Int) (p : VecD) (y : ThingD) : leastOf time p ([] ++ [y]) = dAt (placed time y) p := rfl
theorem leastOf_snoc (time : Int) (p : VecD) {l : List ThingD} (h : l ≠ []) (y : ThingD) : leastOf time p (l ++ [y]) = lesser (leastOf time p l) (dAt (placed time y) p) := by
  cases l with
  | nil => exact absurd rfl h
  | cons x r =>
    show (r ++ [y]).foldl _ _ = lesser (r.foldl _ _) _
    rw [List.foldl_append]
    rfl

theorem dAt_placed {time : Int} {x : ThingD} (h : ThingOK x) (p : VecD) : dAt (placed time x) p = dAt x.2.1 (vsub p (plc time x)) :=
  dAt_moved h.shape.nodes (placed_ok (time := time) h).2.nodes h.shape.low p

theorem dAt_scene (time : Int) (x : ThingD) (r : List ThingD) (h : ∀ y ∈ x :: r, ThingOK y) (p : VecD) : dAt (joinAll (placed time x) (r.map fun x => (placed time x, ()))) p = leastOf time p (x :: r) := by
  rw [dAt_all p _ _ (placed_ok (h x (by simp))).2.nodes (placed_ok (h x (by simp))).2.low (fun b hb => by
    obtain ⟨y, hy, rfl⟩ := List.mem_map.1 hb
    exact ⟨(placed_ok (h y (by simp [hy]))).2.nodes, (placed_ok (h y (by simp [hy]))).2.low⟩)]
  rw [List.foldl_map]
  rfl

theorem h3_in (x0 : X3) (sc : List ThingD) (time : Int) (p : VecD) (hs : SceneOK sc) (hl : sc.length ≤ 3) (ht : 0 ≤ time ∧ time ≤ 10000) (h0 : sc ≠ []) (e : Nat) (d : W3) :
    HL ((time, leastOf time p sc, e, (0 : Int), sc, p.1, p.2.1, p.2.2.1, ()) : K3_r22) d (lp3_1 pp6 ff6 pp7 ff7 pp8 ff8 pp9 ff9 pp10 ff10 pp11 ff11 pp12 ff12 pp13 ff13 pp14 ff14 pp15 ff15 x0) (fun w => w.1.1 = true) := by
  refine HL_in (fun k : K3_r22 => k.1 = time ∧ k.2.1 = leastOf time p sc ∧ 0 ≤ k.2.2.2.1 ∧ k.2.2.2.1 ≤ sc.length ∧ k.2.2.2.2 = (sc, p.1, p.2.1, p.2.2.1, ()) ∧ (0 < k.2.2.2.1 → k.2.2.1 = leastOf time p (sc.take k.2.2.2.1.toNat))) (fun k => (sc.length - k.2.2.2.1).toNat)
    ⟨rfl, rfl, by simp, by simp, rfl, fun h => absurd h (by simp)⟩ ?_
  rintro ⟨k1, k2, least, i, rest⟩ ⟨g1, g2, g3, g4, g5, g6⟩
  simp only at g1 g2 g3 g4 g5 g6
  rw [g1, g2, g5]
  unfold lp3_1
  simp only [VT.H_ite_iff, HL_iff, VT.H_step_iff, VT.H_exit_iff, VT.H_ret_iff, VT.H_pre_iff, VT.H_next_iff, decide_eq_true_eq]
  split
  · rename_i hi
    have hi' : i.toNat < sc.length := by omega
    obtain ⟨y, hy⟩ : ∃ y, sc.getD i.toNat (ByteArray.empty, [], [], ()) = y := ⟨_, rfl⟩
    have hm := hs.each _ (getD_mem (d := (ByteArray.empty, [], [], ())) hi')
    simp only [hy] at hm ⊢
    have ey : ((y.1, y.2.1, y.2.2.1, ()) : ThingD) = y := rfl
    have ev : ∀ v : VecD, (v.1, v.2.1, v.2.2.1, ()) = v := fun _ => rfl
    obtain ⟨a1, a2⟩ := h13 y time hm ht
    obtain ⟨b1, b2⟩ := h14 p (plc time y)
    obtain ⟨c1, c2⟩ := h12 y.2.1 (vsub p (plc time y)) hm.shape
    simp only [ey, a2, ev, b2, c2]
    simp only [Bool.not_true, Bool.false_eq_true, if_false]
    rw [← dAt_placed hm p]
    have e2 : IntKind.wrap .i64 (i + 1) = i + 1 := wrap_i64 (by omega) (by omega)
    have etk : sc.take (i + 1).toNat = sc.take i.toNat ++ [y] := by rw [show (i + 1).toNat = i.toNat + 1 by omega, take_succ' hi' (ByteArray.empty, [], [], ()), hy]
    simp only [e2]
    refine ⟨g3, hi, a1, g3, hi, b1, c1, ?_⟩
    split
    · rename_i hz
      refine ⟨⟨trivial, trivial, by omega, by omega, trivial, fun _ => ?_⟩, by omega⟩
      rw [etk, hz]
      rfl
    · rename_i hz
      have hne : sc.take i.toNat ≠ [] := by
        intro h
        have := congrArg List.length h
        rw [List.length_take] at this
        simp only [List.length_nil] at this
        omega
      have g7 := g6 (by omega)
      split
      · rename_i hc
        refine ⟨⟨trivial, trivial, by omega, by omega, trivial, fun _ => ?_⟩, by omega⟩
        rw [etk, leastOf_snoc _ _ hne, ← g7]
        unfold lesser
        rw [if_pos hc]
      · rename_i hc
        refine ⟨⟨trivial, trivial, by omega, by omega, trivial, fun _ => ?_⟩, by omega⟩
        rw [etk, leastOf_snoc _ _ hne, ← g7]
        unfold lesser
        rw [if_neg hc]
  · have hpos : 0 < sc.length := List.length_pos_iff.2 h0
    have hi : i.toNat = sc.length := by omega
    have g7 := g6 (by omega)
    rw [hi, List.take_length] at g7
    rw [g7]
    obtain ⟨a1, a2⟩ := h15 (leastOf time p sc)
    rw [a2]
    exact ⟨a1, rfl⟩

/-- Nodes of all things, and one more for each. -/
def sizes (s : List ThingD) : Nat := (s.map fun x => x.2.1.length + 1).sum
theorem total_eq (s : List ThingD) : total s = sizes s + (s.length - 1) := rfl
theorem sizes_cons (x : ThingD) (s : List ThingD) : sizes (x :: s) = x.2.1.length + 1 + sizes s := by simp [sizes]
theorem sizes_take {s : List ThingD} {i : Nat} (h : i < s.length) : sizes (s.take (i + 1)) = sizes (s.take i) + ((s.getD i (ByteArray.empty, [], [], ())).2.1.length + 1) := by
  rw [take_succ' h (ByteArray.empty, [], [], ())]
  simp [sizes]
theorem sizes_le : ∀ {s : List ThingD}, (∀ x ∈ s, ThingOK x) → sizes s ≤ 14 * s.length
  | [], _ => by simp [sizes]
  | x :: s, h => by
    have h1 := (h x (by simp)).size
    have h2 := sizes_le (s := s) fun y hy => h y (by simp [hy])
    rw [sizes_cons]
    simp only [List.length_cons]
    omega

/-- The law. -/
theorem h3 (a b : List Int) (ha : ∀ n ∈ a, 0 ≤ n ∧ n ≤ 255) (hb : ∀ n ∈ b, 0 ≤ n ∧ n ≤ 255) : (∀ p ∈ pp3 (a, b, ()), p) ∧ (ff3 (a, b, ())).1.1 = true := by
  refine VT.H_in (P := fun w : W3 => w.1.1 = true) ?_
  obtain ⟨a1, a2⟩ := h6 a b
  obtain ⟨b1, b2, b3⟩ := h7 a ha
  obtain ⟨c1, c2, c3⟩ := h8 b 40 20 hb (by decide)
  obtain ⟨d1, d2⟩ := h9 b hb
  have ht : 0 ≤ (ff8 (b, 40, 20, ())).1.1 ∧ (ff8 (b, 40, 20, ())).1.1 ≤ 10000 := by omega
  obtain ⟨e1, e2⟩ := h10 (ff7 (a, ())).1.1.1 (ff8 (b, 40, 20, ())).1.1 b2 b3 ht
  unfold tr3
  simp only [VT.H_ite_iff, HL_iff, VT.H_step_iff, VT.H_exit_iff, VT.H_ret_iff, VT.H_pre_iff, VT.H_next_iff, a2]
  refine ⟨a1, ?_⟩
  split
  · rename_i hx; simpa using hx
  refine ⟨b1, c1, d1, e1, ?_⟩
  generalize (ff7 (a, ())).1.1.1 = sc at b2 b3 e1 e2 ⊢
  generalize (ff8 (b, 40, 20, ())).1.1 = time at ht e1 e2 ⊢
  generalize (ff9 (b, ())).1.1 = p
  generalize ff10 ((sc, ()), time, ()) = w at e2 ⊢
  refine HL_in (fun k : K3_r9 => k.1 = time ∧ k.2.1 = w.1.2.1 ∧ 0 ≤ k.2.2.2.1 ∧ k.2.2.2.1 ≤ sc.length ∧ k.2.2.2.2 = (sc, p.1, p.2.1, p.2.2.1, w.1.1.1, ()) ∧ k.2.2.1 = (sizes (sc.take k.2.2.2.1.toNat) : Nat)) (fun k => (sc.length - k.2.2.2.1).toNat)
    ⟨rfl, rfl, by simp, by simp, rfl, by simp [sizes]⟩ ?_
  rintro ⟨k1, k2, cnt, i, rest⟩ ⟨g1, g2, g3, g4, g5, g6⟩
  simp only at g1 g2 g3 g4 g5 g6
  rw [g1, g2, g5]
  have hsl := sizes_le (s := sc.take i.toNat) fun x hx => b2.each x (List.mem_of_mem_take hx)
  have hsl2 : (sc.take i.toNat).length ≤ 3 := by rw [List.length_take]; omega
  unfold lp3_2
  simp only [VT.H_ite_iff, HL_iff, VT.H_step_iff, VT.H_exit_iff, VT.H_ret_iff, VT.H_pre_iff, VT.H_next_iff, decide_eq_true_eq]
  split
  · rename_i hi
    have hi' : i.toNat < sc.length := by omega
    have hm := (b2.each _ (getD_mem (d := (ByteArray.empty, [], [], ())) hi')).size
    have q1 : IntKind.wrap .i64 (((sc.getD i.toNat (ByteArray.empty, [], [], ())).2.1.length : Int) + 1) = ((sc.getD i.toNat (ByteArray.empty, [], [], ())).2.1.length : Int) + 1 := wrap_i64 (by omega) (by omega)
    have q2 : IntKind.wrap .i64 (cnt + (((sc.getD i.toNat (ByteArray.empty, [], [], ())).2.1.length : Int) + 1)) = cnt + (((sc.getD i.toNat (ByteArray.empty, [], [], ())).2.1.length : Int) + 1) := wrap_i64 (by omega) (by omega)
    have q3 : IntKind.wrap .i64 (i + 1) = i + 1 := wrap_i64 (by omega) (by omega)
    simp only [q1, q2, q3]
    refine ⟨g3, hi, ⟨trivial, trivial, by omega, by omega, trivial, ?_⟩, by omega⟩
    rw [show (i + 1).toNat = i.toNat + 1 by omega, sizes_take hi']
    omega
  · have hi : i.toNat = sc.length := by omega
    rw [hi, List.take_length] at g6 hsl
    have q1 : IntKind.wrap .i64 ((sc.length : Int) - 1) = (sc.length : Int) - 1 := wrap_i64 (by omega) (by omega)
    have q2 : IntKind.wrap .i64 (cnt + ((sc.length : Int) - 1)) = cnt + ((sc.length : Int) - 1) := wrap_i64 (by omega) (by omega)
    simp only [q1, q2]
    obtain ⟨f1, f2⟩ := h11 sc b2 b3
    cases sc with
    | nil =>
      have e3 : w.1.2.1 = false := e2
      rw [e3]
      simp
      exact ⟨f1, by rw [f2]⟩
    | cons x r =>
      have htot : cnt + (((x :: r).length : Int) - 1) = (total (x :: r) : Nat) := by
        rw [total_eq, g6]
        simp only [List.length_cons]
        omega
      rw [htot]
      rw [if_pos (by simp only [List.length_cons]; omega)]
      obtain ⟨e3, e4⟩ := e2
      by_cases hle : total (x :: r) ≤ 16
      · obtain ⟨e5, e6⟩ := e3 hle
        rw [e5]
        have hd : decide (((total (x :: r) : Nat) : Int) ≤ 16) = true := decide_eq_true (by omega)
        obtain ⟨m1, m2⟩ := h12 _ p e6
        have ev : ∀ v : VecD, (v.1, v.2.1, v.2.2.1, ()) = v := fun _ => rfl
        have hlen : ((joinAll (placed time x) (r.map fun x => (placed time x, ()))).length : Int) = (total (x :: r) : Nat) := by
          rw [joinAll_length, size_placed, total_eq, sizes_cons]
          unfold placed
          rw [moved_length]
          show ((x.2.1.length + 1 + (sizes r + r.length) : Nat) : Int) = _
          simp only [List.length_cons]
          omega
        simp only [hd, ev, m2, hlen]
        simp only [beq_self_eq_true, Bool.not_true, Bool.false_eq_true, if_false, decide_true]
        refine ⟨m1, ?_⟩
        rw [dAt_scene time x r b2.each p]
        exact h3_in _ (x :: r) time p b2 b3 ht (by simp) _ _
      · rw [e4 hle]
        have hd : decide (((total (x :: r) : Nat) : Int) ≤ 16) = false := decide_eq_false (by omega)
        simp only [hd, f2]
        simp only [beq_self_eq_true, Bool.not_true, Bool.false_eq_true, if_false, Bool.not_false, if_true]
        exact ⟨f1, trivial⟩
end Go.Proofs.Ytmlolnaannoifaa

/- lifting -/
namespace Go.Proofs.Ytmlolnaannoifaa
open Go.ChangeShapes Go.WideShapes Go.ChangeAt Go.RowKit

set_option maxRecDepth 100000 in
theorem fnScenesMoved_lifted (hplain : ∀ a b : List Int, (∀ n ∈ a, 0 ≤ n ∧ n ≤ 255) → (∀ n ∈ b, 0 ≤ n ∧ n ≤ 255) → (∀ p ∈ pp3 (a, b, ()), p) ∧ (ff3 (a, b, ())).1.1 = true) (os : Os) (started : os.Started) (H : Type) (enc : TypeId × Value → H) :
    ReturnsInHanded {} Try.checked os 3 .any (Rows.fnScenesMovedSpec.pre6 enc Try.prog Try.f3 Rows.fnScenesMovedRow.domain false) (Rows.fnScenesMovedSpec.post enc Try.prog Try.f3 false true false false) := by
  refine returnsInHanded_of_change (C := Try.checked) Try.own started (by kernel_rfl) Try.func3
    (ChangeSpec.witness6 (enc := enc) (C := Try.checked) false ⟨#[], #[.slice none 0 0, .slice none 0 0], []⟩ 8 (by kernel_rfl) (by kernel_rfl) (by kernel_rfl) (by kernel_rfl)) ?_
  intro W base args ds gs before hval0 hW hcnd _
  have hval : ∀ (j : Nat) t v, Try.f3.params[j]? = some t → args[j]? = some v → Value.okWide Try.prog W .any base t v := hval0
  have hW' := hW
  obtain ⟨p, q, hA0, hV, rfl, hfz, hnd⟩ := hW
  have hA : DataW.TrodAll enc Try.prog W 0 (fun _ => true) true Try.f3.params.toList args.toList ds p := hA0
  rw [Try.params3] at hA hval
  obtain ⟨v0, v1, d0, d1, p0, p1, rfl, rfl, rfl, h0, h1⟩ := trodAll_two hA
  obtain ⟨rfl, rfl⟩ := trodVars_none hV
  obtain ⟨⟨a, U1, hb0⟩, o0, t0⟩ := bytes_in Try.underlying22 Try.underlying5 (by kernel_rfl) (hval 0 22 v0 rfl rfl) h0
  obtain ⟨⟨b, U2, hb1⟩, o1, t1⟩ := bytes_in Try.underlying22 Try.underlying5 (by kernel_rfl) (hval 1 22 v1 rfl rfl) h1
  refine (calls_of_ok Try.func3 rfl (by kernel_rfl) (call_of_sound snd3 hplain hb0 hb1 o0 o1)).mono ?_
  rintro e W' ⟨v, he, rfl, k1, k2, k3⟩
  exact ⟨_, he, post_of_grown (pa := p0 ++ p1) (pv := []) hW' (fun _ _ _ => trodAll_mk1 (shut_bool Try.underlying4 true)) (fun sp hsp => trodAll_mk2 (t0 W' k3 sp fun q hq => hsp q (by simp [hq])) (t1 W' k3 sp fun q hq => hsp q (by simp [hq]))) (fun _ _ => rfl) rfl
    (keptBut_of_heap k1 k2 k3) (fun a ha => frozen_of_heap (k3 _ ha)) (ok_one (by kernel_rfl) rfl (okWide_bool_mk Try.underlying4))⟩

set_option maxRecDepth 100000 in
theorem fnScenesMoved_holds (hplain : ∀ a b : List Int, (∀ n ∈ a, 0 ≤ n ∧ n ≤ 255) → (∀ n ∈ b, 0 ≤ n ∧ n ≤ 255) → (∀ p ∈ pp3 (a, b, ()), p) ∧ (ff3 (a, b, ())).1.1 = true) : Rows.FnScenesMovedSaid :=
  OpenClaim.holds_of_wide 3 Try.f3 rfl rfl rfl rfl rfl rfl rfl ⟨rfl, rfl, rfl, rfl, rfl⟩ rfl rfl rfl rfl rfl (by kernel_rfl) Try.func3 (by kernel_rfl)
    (of_decide_eq_true (by kernel_rfl)) (by unfold Func.isWrapper; first | (rw [if_pos (by decide +kernel)]; kernel_rfl) | (rw [if_neg (by decide +kernel)]; exact ⟨rfl, rfl⟩))
    (fun os started H enc _ => fnScenesMoved_lifted hplain os started H enc)
end Go.Proofs.Ytmlolnaannoifaa
