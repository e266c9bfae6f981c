/- An evaluator of the model over told data and its soundness. -/
import Derived.Test.YtmlolnaannoifaaProg
import Derived.Test.YtmlolnaannoifaaRows
import Derived.ProofKit
import Derived.Test.YtmlolnaannoifaaEv2
set_option linter.all false
set_option linter.unusedVariables false
set_option linter.unusedSimpArgs false

/- The table of types, checked against the translation. -/
namespace Go.Proofs.Ytmlolnaannoifaa

def eqT : (k : Kd) → k.T → k.T → Bool
  | .bool, x, y => x == y
  | .int _, x, y => decide ((x : Int) = y)
  | .flt _, x, y => decide ((x : Nat) = y)
  | .str, x, y => decide (x.data = y.data)
  | _, _, _ => false

theorem eqT_eq : ∀ {k : Kd} {x y : k.T}, eqT k x y = true → x = y
  | .bool, x, y, h => by simpa [eqT] using h
  | .int _, x, y, h => of_decide_eq_true h
  | .flt _, x, y, h => of_decide_eq_true h
  | .str, x, y, h => ByteArray.ext (of_decide_eq_true h)
  | .sl _, _, _, h => by simp [eqT] at h
  | .own _, _, _, h => by simp [eqT] at h
  | .unit, _, _, h => by simp [eqT] at h
  | .pair _ _, _, _, h => by simp [eqT] at h

def eqA : AV1 → AV1 → Bool
  | .d k x, .d k' y => match Kd.cast k k' x with | some z => eqT k' z y | none => false
  | .nilsl, .nilsl => true
  | .nilp, .nilp => true
  | .any, .any => true
  | _, _ => false

theorem eqA_eq {a b : AV1} (h : eqA a b = true) : a = b := by
  unfold eqA at h
  split at h
  · split at h
    · rename_i hc
      obtain ⟨q, rfl⟩ := cast_some hc
      subst q
      have h' : eqT _ _ _ = true := h
      exact congrArg _ (eqT_eq h')
    · cases h
  · rfl
  · rfl
  · rfl
  · cases h

def eqAs : List AV1 → List AV1 → Bool
  | [], [] => true
  | a :: l, b :: r => eqA a b && eqAs l r
  | _, _ => false

theorem eqAs_eq : ∀ {l r : List AV1}, eqAs l r = true → l = r
  | [], [], _ => rfl
  | a :: l, b :: r, h => by
    simp only [eqAs, Bool.and_eq_true] at h
    rw [eqA_eq h.1, eqAs_eq h.2]
  | [], _ :: _, h => by simp [eqAs] at h
  | _ :: _, [], h => by simp [eqAs] at h

def zeroShape (z : Value) (agg : Bool) : Bool :=
  match z with
  | .agg _ => agg
  | .tuple _ => false
  | _ => !agg

def checkRow (P : Program) (t : TypeId) (ti : TyI) : Bool :=
  match P.underlying t, P.info? t with
  | some d, some i =>
    decide (TD.of d = ti.td) && (Nat.beq i.size ti.size && (Nat.beq i.bytes ti.bytes && (Nat.beq ti.kd.sz ti.size && (Nat.beq ti.zero.length ti.size &&
      match i.zero with
      | some z => eqAs (z.cells.toList.map ofConst) ti.zero && (z.cells.toList.all oneC && zeroShape z ti.td.agg)
      | none => false))))
  | _, _ => false

theorem checkRow_ok {P : Program} {t : TypeId} {ti : TyI} (h : checkRow P t ti = true) : TyRow P t ti := by
  unfold checkRow at h
  split at h
  · rename_i d i hd hi
    simp only [Bool.and_eq_true, decide_eq_true_eq] at h
    obtain ⟨h1, h2, h3, h4, h5, h6⟩ := h
    split at h6
    · rename_i z hz
      simp only [Bool.and_eq_true] at h6
      obtain ⟨k1, k2, k3⟩ := h6
      refine ⟨⟨d, hd, h1⟩, ⟨i, z, hi, Nat.eq_of_beq_eq_true h2, Nat.eq_of_beq_eq_true h3, hz, eqAs_eq k1, k2, ?_⟩, Nat.eq_of_beq_eq_true h4, Nat.eq_of_beq_eq_true h5⟩
      unfold zeroShape at k3
      split at k3
      · exact k3
      · exact k3
      · rename_i x1 x2
        split
        · rename_i cs; exact absurd rfl (x1 cs)
        · rename_i cs; exact absurd rfl (x2 cs)
        · exact k3
    · cases h6
  · cases h

theorem tyOK_of {P : Program} {l : List (Nat × TyI)} (h : (l.all fun p => checkRow P p.1 p.2) = true) : TyOK P (fun t => get1 l t) := by
  intro t ti ht
  rw [List.all_eq_true] at h
  exact checkRow_ok (h (t, ti) (get1_some ht))

end Go.Proofs.Ytmlolnaannoifaa

/- The types of the translation, as the evaluator is told of them. Written by wip/gen/mkty.py. -/
namespace Go.Proofs.Ytmlolnaannoifaa

def tyList : List (Nat × TyI) := [
  (1, ⟨.other, 1, 8, .bool, [.any]⟩),
  (2, ⟨(.int .i64), 1, 8, (.int .i64), [.d (.int .i64) (0 : Int)]⟩),
  (3, ⟨(.int .i64), 1, 8, (.int .i64), [.d (.int .i64) (0 : Int)]⟩),
  (4, ⟨.bool, 1, 1, .bool, [.d .bool false]⟩),
  (5, ⟨(.int .u8), 1, 1, (.int .u8), [.d (.int .u8) (0 : Int)]⟩),
  (6, ⟨(.int .u8), 1, 1, (.int .u8), [.d (.int .u8) (0 : Int)]⟩),
  (7, ⟨(.struct [(0, 2), (1, 3), (2, 4), (3, 6)]), 4, 24, (.pair (.int .i64) (.pair (.int .i64) (.pair .bool (.pair (.int .u8) .unit)))), [.d (.int .i64) (0 : Int), .d (.int .i64) (0 : Int), .d .bool false, .d (.int .u8) (0 : Int)]⟩),
  (8, ⟨(.struct [(0, 2), (1, 3), (2, 4), (3, 6)]), 4, 24, (.pair (.int .i64) (.pair (.int .i64) (.pair .bool (.pair (.int .u8) .unit)))), [.d (.int .i64) (0 : Int), .d (.int .i64) (0 : Int), .d .bool false, .d (.int .u8) (0 : Int)]⟩),
  (9, ⟨.str, 1, 16, .str, [.d .str ⟨#[]⟩]⟩),
  (10, ⟨.str, 1, 16, .str, [.d .str ⟨#[]⟩]⟩),
  (11, ⟨.str, 1, 16, .str, [.d .str ⟨#[]⟩]⟩),
  (12, ⟨(.int .u64), 1, 8, (.int .u64), [.d (.int .u64) (0 : Int)]⟩),
  (13, ⟨(.struct [(0, 9), (1, 12)]), 2, 24, (.pair .str (.pair (.int .u64) .unit)), [.d .str ⟨#[]⟩, .d (.int .u64) (0 : Int)]⟩),
  (14, ⟨(.struct [(0, 9), (1, 12)]), 2, 24, (.pair .str (.pair (.int .u64) .unit)), [.d .str ⟨#[]⟩, .d (.int .u64) (0 : Int)]⟩),
  (15, ⟨.ptr, 1, 8, .bool, [.nilp]⟩),
  (16, ⟨.ptr, 1, 8, .bool, [.nilp]⟩),
  (17, ⟨.ptr, 1, 8, .bool, [.nilp]⟩),
  (18, ⟨(.struct [(0, 17)]), 1, 8, (.pair .bool .unit), [.nilp]⟩),
  (19, ⟨(.struct [(0, 17)]), 1, 8, (.pair .bool .unit), [.nilp]⟩),
  (21, ⟨(.int .i32), 1, 4, (.int .i32), [.d (.int .i32) (0 : Int)]⟩),
  (22, ⟨(.slice 5), 1, 24, (.sl (.int .u8)), [.nilsl]⟩),
  (23, ⟨.other, 1, 8, .bool, [.any]⟩),
  (24, ⟨(.slice 40), 1, 24, (.sl (.pair .str (.pair (.sl (.pair (.int .i64) (.pair (.int .i64) (.pair (.int .i64) (.pair (.sl (.flt .f32)) .unit))))) (.pair (.sl (.pair (.int .i64) (.pair (.flt .f32) (.pair (.flt .f32) (.pair (.flt .f32) .unit))))) .unit)))), [.nilsl]⟩),
  (25, ⟨(.struct [(0, 24)]), 1, 24, (.pair (.sl (.pair .str (.pair (.sl (.pair (.int .i64) (.pair (.int .i64) (.pair (.int .i64) (.pair (.sl (.flt .f32)) .unit))))) (.pair (.sl (.pair (.int .i64) (.pair (.flt .f32) (.pair (.flt .f32) (.pair (.flt .f32) .unit))))) .unit)))) .unit), [.nilsl]⟩),
  (26, ⟨(.struct [(0, 24)]), 1, 24, (.pair (.sl (.pair .str (.pair (.sl (.pair (.int .i64) (.pair (.int .i64) (.pair (.int .i64) (.pair (.sl (.flt .f32)) .unit))))) (.pair (.sl (.pair (.int .i64) (.pair (.flt .f32) (.pair (.flt .f32) (.pair (.flt .f32) .unit))))) .unit)))) .unit), [.nilsl]⟩),
  (27, ⟨.other, 1, 8, .bool, [.any]⟩),
  (28, ⟨.other, 1, 8, .bool, [.any]⟩),
  (29, ⟨(.flt .f32), 1, 4, (.flt .f32), [.d (.flt .f32) (0 : Nat)]⟩),
  (30, ⟨(.struct [(0, 29), (1, 29), (2, 29)]), 3, 12, (.pair (.flt .f32) (.pair (.flt .f32) (.pair (.flt .f32) .unit))), [.d (.flt .f32) (0 : Nat), .d (.flt .f32) (0 : Nat), .d (.flt .f32) (0 : Nat)]⟩),
  (31, ⟨(.struct [(0, 29), (1, 29), (2, 29)]), 3, 12, (.pair (.flt .f32) (.pair (.flt .f32) (.pair (.flt .f32) .unit))), [.d (.flt .f32) (0 : Nat), .d (.flt .f32) (0 : Nat), .d (.flt .f32) (0 : Nat)]⟩),
  (32, ⟨.other, 1, 8, .bool, [.any]⟩),
  (33, ⟨(.slice 121), 1, 24, (.sl (.pair (.int .i64) (.pair (.int .i64) (.pair (.int .i64) (.pair (.sl (.flt .f32)) .unit))))), [.nilsl]⟩),
  (34, ⟨(.struct [(0, 33)]), 1, 24, (.pair (.sl (.pair (.int .i64) (.pair (.int .i64) (.pair (.int .i64) (.pair (.sl (.flt .f32)) .unit))))) .unit), [.nilsl]⟩),
  (35, ⟨(.struct [(0, 33)]), 1, 24, (.pair (.sl (.pair (.int .i64) (.pair (.int .i64) (.pair (.int .i64) (.pair (.sl (.flt .f32)) .unit))))) .unit), [.nilsl]⟩),
  (37, ⟨.other, 1, 8, .bool, [.any]⟩),
  (38, ⟨(.slice 112), 1, 24, (.sl (.pair (.int .i64) (.pair (.flt .f32) (.pair (.flt .f32) (.pair (.flt .f32) .unit))))), [.nilsl]⟩),
  (39, ⟨(.struct [(0, 9), (1, 35), (2, 38)]), 3, 64, (.pair .str (.pair (.sl (.pair (.int .i64) (.pair (.int .i64) (.pair (.int .i64) (.pair (.sl (.flt .f32)) .unit))))) (.pair (.sl (.pair (.int .i64) (.pair (.flt .f32) (.pair (.flt .f32) (.pair (.flt .f32) .unit))))) .unit))), [.d .str ⟨#[]⟩, .nilsl, .nilsl]⟩),
  (40, ⟨(.struct [(0, 9), (1, 35), (2, 38)]), 3, 64, (.pair .str (.pair (.sl (.pair (.int .i64) (.pair (.int .i64) (.pair (.int .i64) (.pair (.sl (.flt .f32)) .unit))))) (.pair (.sl (.pair (.int .i64) (.pair (.flt .f32) (.pair (.flt .f32) (.pair (.flt .f32) .unit))))) .unit))), [.d .str ⟨#[]⟩, .nilsl, .nilsl]⟩),
  (41, ⟨.other, 1, 8, .bool, [.any]⟩),
  (43, ⟨.other, 1, 8, .bool, [.any]⟩),
  (45, ⟨.other, 1, 8, .bool, [.any]⟩),
  (46, ⟨.other, 1, 8, .bool, [.any]⟩),
  (47, ⟨.other, 1, 8, .bool, [.any]⟩),
  (48, ⟨.other, 1, 8, .bool, [.any]⟩),
  (49, ⟨(.struct [(0, 31), (3, 31)]), 6, 24, (.pair (.flt .f32) (.pair (.flt .f32) (.pair (.flt .f32) (.pair (.flt .f32) (.pair (.flt .f32) (.pair (.flt .f32) .unit)))))), [.d (.flt .f32) (0 : Nat), .d (.flt .f32) (0 : Nat), .d (.flt .f32) (0 : Nat), .d (.flt .f32) (0 : Nat), .d (.flt .f32) (0 : Nat), .d (.flt .f32) (0 : Nat)]⟩),
  (50, ⟨(.struct [(0, 31), (3, 31)]), 6, 24, (.pair (.flt .f32) (.pair (.flt .f32) (.pair (.flt .f32) (.pair (.flt .f32) (.pair (.flt .f32) (.pair (.flt .f32) .unit)))))), [.d (.flt .f32) (0 : Nat), .d (.flt .f32) (0 : Nat), .d (.flt .f32) (0 : Nat), .d (.flt .f32) (0 : Nat), .d (.flt .f32) (0 : Nat), .d (.flt .f32) (0 : Nat)]⟩),
  (51, ⟨.other, 1, 8, .bool, [.any]⟩),
  (52, ⟨(.slice 50), 1, 24, (.sl (.pair (.flt .f32) (.pair (.flt .f32) (.pair (.flt .f32) (.pair (.flt .f32) (.pair (.flt .f32) (.pair (.flt .f32) .unit))))))), [.nilsl]⟩),
  (54, ⟨.other, 1, 8, .bool, [.any]⟩),
  (55, ⟨(.int .u64), 1, 8, (.int .u64), [.d (.int .u64) (0 : Int)]⟩),
  (57, ⟨.other, 1, 8, .bool, [.any]⟩),
  (58, ⟨.other, 1, 8, .bool, [.any]⟩),
  (59, ⟨.other, 1, 8, .bool, [.any]⟩),
  (61, ⟨.other, 1, 8, .bool, [.any]⟩),
  (62, ⟨.other, 1, 8, .bool, [.any]⟩),
  (63, ⟨.other, 1, 8, .bool, [.any]⟩),
  (64, ⟨.other, 1, 8, .bool, [.any]⟩),
  (65, ⟨.ptr, 1, 8, .bool, [.nilp]⟩),
  (66, ⟨.other, 1, 8, .bool, [.any]⟩),
  (67, ⟨.other, 1, 8, .bool, [.any]⟩),
  (68, ⟨.other, 1, 8, .bool, [.any]⟩),
  (69, ⟨.other, 1, 8, .bool, [.any]⟩),
  (70, ⟨(.slice 35), 1, 24, (.sl (.pair (.sl (.pair (.int .i64) (.pair (.int .i64) (.pair (.int .i64) (.pair (.sl (.flt .f32)) .unit))))) .unit)), [.nilsl]⟩),
  (71, ⟨(.array 3 29), 3, 12, (.pair (.flt .f32) (.pair (.flt .f32) (.pair (.flt .f32) .unit))), [.d (.flt .f32) (0 : Nat), .d (.flt .f32) (0 : Nat), .d (.flt .f32) (0 : Nat)]⟩),
  (72, ⟨.other, 1, 8, .bool, [.any]⟩),
  (73, ⟨.other, 1, 8, .bool, [.any]⟩),
  (74, ⟨.other, 1, 8, .bool, [.any]⟩),
  (75, ⟨(.slice 29), 1, 24, (.sl (.flt .f32)), [.nilsl]⟩),
  (76, ⟨.other, 1, 8, .bool, [.any]⟩),
  (77, ⟨.other, 1, 8, .bool, [.any]⟩),
  (78, ⟨.other, 1, 8, .bool, [.any]⟩),
  (79, ⟨.other, 1, 8, .bool, [.any]⟩),
  (80, ⟨.other, 1, 8, .bool, [.any]⟩),
  (81, ⟨(.int .u32), 1, 4, (.int .u32), [.d (.int .u32) (0 : Int)]⟩),
  (82, ⟨.other, 1, 8, .bool, [.any]⟩),
  (83, ⟨.other, 1, 8, .bool, [.any]⟩),
  (84, ⟨.other, 1, 8, .bool, [.any]⟩),
  (85, ⟨.other, 1, 8, .bool, [.any]⟩),
  (86, ⟨.other, 1, 8, .bool, [.any]⟩),
  (87, ⟨.other, 1, 8, .bool, [.any]⟩),
  (88, ⟨.other, 1, 8, .bool, [.any]⟩),
  (89, ⟨.other, 1, 8, .bool, [.any]⟩),
  (90, ⟨.ptr, 1, 8, .bool, [.nilp]⟩),
  (91, ⟨(.struct [(0, 9), (1, 3), (2, 4)]), 3, 32, (.pair .str (.pair (.int .i64) (.pair .bool .unit))), [.d .str ⟨#[]⟩, .d (.int .i64) (0 : Int), .d .bool false]⟩),
  (92, ⟨(.struct [(0, 9), (1, 3), (2, 4)]), 3, 32, (.pair .str (.pair (.int .i64) (.pair .bool .unit))), [.d .str ⟨#[]⟩, .d (.int .i64) (0 : Int), .d .bool false]⟩),
  (93, ⟨.other, 1, 8, .bool, [.any]⟩),
  (94, ⟨.other, 1, 8, .bool, [.any]⟩),
  (95, ⟨.other, 1, 8, .bool, [.any]⟩),
  (96, ⟨.ptr, 1, 8, .bool, [.nilp]⟩),
  (97, ⟨.other, 1, 8, .bool, [.any]⟩),
  (98, ⟨(.struct [(0, 9), (1, 3), (2, 4)]), 3, 32, (.pair .str (.pair (.int .i64) (.pair .bool .unit))), [.d .str ⟨#[]⟩, .d (.int .i64) (0 : Int), .d .bool false]⟩),
  (99, ⟨(.struct [(0, 9), (1, 3), (2, 4)]), 3, 32, (.pair .str (.pair (.int .i64) (.pair .bool .unit))), [.d .str ⟨#[]⟩, .d (.int .i64) (0 : Int), .d .bool false]⟩),
  (100, ⟨.other, 1, 8, .bool, [.any]⟩),
  (102, ⟨.other, 1, 8, .bool, [.any]⟩),
  (103, ⟨.other, 1, 8, .bool, [.any]⟩),
  (104, ⟨.other, 1, 8, .bool, [.any]⟩),
  (105, ⟨(.int .u64), 1, 8, (.int .u64), [.d (.int .u64) (0 : Int)]⟩),
  (106, ⟨(.struct [(0, 22), (1, 3), (2, 105)]), 3, 40, (.pair (.sl (.int .u8)) (.pair (.int .i64) (.pair (.int .u64) .unit))), [.nilsl, .d (.int .i64) (0 : Int), .d (.int .u64) (0 : Int)]⟩),
  (107, ⟨(.struct [(0, 22), (1, 3), (2, 105)]), 3, 40, (.pair (.sl (.int .u8)) (.pair (.int .i64) (.pair (.int .u64) .unit))), [.nilsl, .d (.int .i64) (0 : Int), .d (.int .u64) (0 : Int)]⟩),
  (108, ⟨.other, 1, 8, .bool, [.any]⟩),
  (109, ⟨.other, 1, 8, .bool, [.any]⟩),
  (110, ⟨.ptr, 1, 8, .bool, [.nilp]⟩),
  (111, ⟨(.struct [(0, 2), (1, 31)]), 4, 24, (.pair (.int .i64) (.pair (.flt .f32) (.pair (.flt .f32) (.pair (.flt .f32) .unit)))), [.d (.int .i64) (0 : Int), .d (.flt .f32) (0 : Nat), .d (.flt .f32) (0 : Nat), .d (.flt .f32) (0 : Nat)]⟩),
  (112, ⟨(.struct [(0, 2), (1, 31)]), 4, 24, (.pair (.int .i64) (.pair (.flt .f32) (.pair (.flt .f32) (.pair (.flt .f32) .unit)))), [.d (.int .i64) (0 : Int), .d (.flt .f32) (0 : Nat), .d (.flt .f32) (0 : Nat), .d (.flt .f32) (0 : Nat)]⟩),
  (113, ⟨.other, 1, 8, .bool, [.any]⟩),
  (114, ⟨(.struct [(0, 3), (1, 3), (2, 4), (3, 3)]), 4, 32, (.pair (.int .i64) (.pair (.int .i64) (.pair .bool (.pair (.int .i64) .unit)))), [.d (.int .i64) (0 : Int), .d (.int .i64) (0 : Int), .d .bool false, .d (.int .i64) (0 : Int)]⟩),
  (115, ⟨(.struct [(0, 3), (1, 3), (2, 4), (3, 3)]), 4, 32, (.pair (.int .i64) (.pair (.int .i64) (.pair .bool (.pair (.int .i64) .unit)))), [.d (.int .i64) (0 : Int), .d (.int .i64) (0 : Int), .d .bool false, .d (.int .i64) (0 : Int)]⟩),
  (117, ⟨.other, 1, 8, .bool, [.any]⟩),
  (118, ⟨.other, 1, 8, .bool, [.any]⟩),
  (119, ⟨.other, 1, 8, .bool, [.any]⟩),
  (120, ⟨(.struct [(0, 2), (1, 2), (2, 2), (3, 75)]), 4, 48, (.pair (.int .i64) (.pair (.int .i64) (.pair (.int .i64) (.pair (.sl (.flt .f32)) .unit)))), [.d (.int .i64) (0 : Int), .d (.int .i64) (0 : Int), .d (.int .i64) (0 : Int), .nilsl]⟩),
  (121, ⟨(.struct [(0, 2), (1, 2), (2, 2), (3, 75)]), 4, 48, (.pair (.int .i64) (.pair (.int .i64) (.pair (.int .i64) (.pair (.sl (.flt .f32)) .unit)))), [.d (.int .i64) (0 : Int), .d (.int .i64) (0 : Int), .d (.int .i64) (0 : Int), .nilsl]⟩),
  (122, ⟨.other, 1, 8, .bool, [.any]⟩),
  (123, ⟨.other, 1, 8, .bool, [.any]⟩),
  (124, ⟨.other, 1, 8, .bool, [.any]⟩),
  (125, ⟨(.slice 3), 1, 24, (.sl (.int .i64)), [.nilsl]⟩),
  (126, ⟨.ptr, 1, 8, .bool, [.nilp]⟩),
  (127, ⟨.other, 1, 8, .bool, [.any]⟩),
  (128, ⟨.other, 1, 8, .bool, [.any]⟩),
  (129, ⟨(.slice 2), 1, 24, (.sl (.int .i64)), [.nilsl]⟩),
  (130, ⟨.other, 1, 8, .bool, [.any]⟩),
  (131, ⟨.other, 1, 8, .bool, [.any]⟩),
  (132, ⟨.other, 1, 8, .bool, [.any]⟩),
  (133, ⟨.ptr, 1, 8, .bool, [.nilp]⟩),
  (134, ⟨.other, 1, 8, .bool, [.any]⟩),
  (136, ⟨.other, 1, 8, .bool, [.any]⟩),
  (137, ⟨.other, 1, 8, .bool, [.any]⟩),
  (138, ⟨(.struct [(0, 29), (1, 29)]), 2, 8, (.pair (.flt .f32) (.pair (.flt .f32) .unit)), [.d (.flt .f32) (0 : Nat), .d (.flt .f32) (0 : Nat)]⟩),
  (139, ⟨(.struct [(0, 29), (1, 29)]), 2, 8, (.pair (.flt .f32) (.pair (.flt .f32) .unit)), [.d (.flt .f32) (0 : Nat), .d (.flt .f32) (0 : Nat)]⟩),
  (140, ⟨(.slice 139), 1, 24, (.sl (.pair (.flt .f32) (.pair (.flt .f32) .unit))), [.nilsl]⟩),
  (141, ⟨.other, 1, 8, .bool, [.any]⟩),
  (143, ⟨.other, 1, 8, .bool, [.any]⟩),
  (144, ⟨.other, 1, 8, .bool, [.any]⟩),
  (145, ⟨.other, 1, 8, .bool, [.any]⟩),
  (146, ⟨.other, 1, 8, .bool, [.any]⟩),
  (147, ⟨.other, 1, 8, .bool, [.any]⟩),
  (148, ⟨.other, 1, 8, .bool, [.any]⟩),
  (149, ⟨.ptr, 1, 8, .bool, [.nilp]⟩),
  (150, ⟨.other, 1, 8, .bool, [.any]⟩),
  (151, ⟨.ptr, 1, 8, .bool, [.nilp]⟩),
  (152, ⟨(.struct [(0, 151), (1, 22)]), 2, 32, (.pair .bool (.pair (.sl (.int .u8)) .unit)), [.nilp, .nilsl]⟩),
  (153, ⟨(.struct [(0, 151), (1, 22)]), 2, 32, (.pair .bool (.pair (.sl (.int .u8)) .unit)), [.nilp, .nilsl]⟩),
  (157, ⟨.other, 1, 8, .bool, [.any]⟩),
  (158, ⟨.other, 1, 8, .bool, [.any]⟩),
  (159, ⟨.other, 1, 8, .bool, [.any]⟩),
  (160, ⟨.other, 1, 8, .bool, [.any]⟩),
  (161, ⟨.other, 1, 8, .bool, [.any]⟩),
  (162, ⟨.other, 1, 8, .bool, [.any]⟩),
  (163, ⟨.other, 1, 8, .bool, [.any]⟩),
  (164, ⟨.other, 1, 8, .bool, [.any]⟩),
  (165, ⟨.other, 1, 8, .bool, [.any]⟩),
  (166, ⟨(.slice 9), 1, 24, (.sl .str), [.nilsl]⟩),
  (167, ⟨.other, 1, 8, .bool, [.any]⟩),
  (168, ⟨.other, 1, 8, .bool, [.any]⟩),
  (169, ⟨.other, 1, 8, .bool, [.any]⟩),
  (170, ⟨.other, 1, 8, .bool, [.any]⟩),
  (171, ⟨.other, 1, 8, .bool, [.any]⟩),
  (172, ⟨.other, 1, 8, .bool, [.any]⟩),
  (173, ⟨.other, 1, 8, .bool, [.any]⟩),
  (174, ⟨.other, 1, 8, .bool, [.any]⟩),
  (175, ⟨.other, 1, 8, .bool, [.any]⟩),
  (176, ⟨.other, 1, 8, .bool, [.any]⟩),
  (177, ⟨(.slice 179), 1, 24, (.sl (.pair (.flt .f32) (.pair (.flt .f32) (.pair (.flt .f32) (.pair (.flt .f32) (.pair (.flt .f32) (.pair (.flt .f32) .unit))))))), [.nilsl]⟩),
  (178, ⟨(.array 3 139), 6, 24, (.pair (.flt .f32) (.pair (.flt .f32) (.pair (.flt .f32) (.pair (.flt .f32) (.pair (.flt .f32) (.pair (.flt .f32) .unit)))))), [.d (.flt .f32) (0 : Nat), .d (.flt .f32) (0 : Nat), .d (.flt .f32) (0 : Nat), .d (.flt .f32) (0 : Nat), .d (.flt .f32) (0 : Nat), .d (.flt .f32) (0 : Nat)]⟩),
  (179, ⟨(.array 3 139), 6, 24, (.pair (.flt .f32) (.pair (.flt .f32) (.pair (.flt .f32) (.pair (.flt .f32) (.pair (.flt .f32) (.pair (.flt .f32) .unit)))))), [.d (.flt .f32) (0 : Nat), .d (.flt .f32) (0 : Nat), .d (.flt .f32) (0 : Nat), .d (.flt .f32) (0 : Nat), .d (.flt .f32) (0 : Nat), .d (.flt .f32) (0 : Nat)]⟩),
  (180, ⟨.other, 1, 8, .bool, [.any]⟩),
  (181, ⟨.other, 1, 8, .bool, [.any]⟩),
  (182, ⟨.other, 1, 8, .bool, [.any]⟩),
  (183, ⟨.other, 1, 8, .bool, [.any]⟩),
  (184, ⟨.other, 1, 8, .bool, [.any]⟩),
  (185, ⟨.other, 1, 8, .bool, [.any]⟩),
  (186, ⟨.other, 1, 8, .bool, [.any]⟩),
  (187, ⟨.other, 1, 8, .bool, [.any]⟩),
  (188, ⟨.other, 1, 8, .bool, [.any]⟩),
  (189, ⟨.other, 1, 8, .bool, [.any]⟩),
  (190, ⟨.other, 1, 8, .bool, [.any]⟩),
  (191, ⟨.other, 1, 8, .bool, [.any]⟩),
  (192, ⟨.other, 1, 8, .bool, [.any]⟩),
  (193, ⟨.ptr, 1, 8, .bool, [.nilp]⟩),
  (194, ⟨.other, 1, 8, .bool, [.any]⟩),
  (195, ⟨.other, 1, 8, .bool, [.any]⟩),
  (196, ⟨.other, 1, 8, .bool, [.any]⟩),
  (197, ⟨.other, 1, 8, .bool, [.any]⟩),
  (198, ⟨.other, 1, 8, .bool, [.any]⟩),
  (199, ⟨.other, 1, 8, .bool, [.any]⟩),
  (200, ⟨.other, 1, 8, .bool, [.any]⟩),
  (201, ⟨.other, 1, 8, .bool, [.any]⟩),
  (202, ⟨.other, 1, 8, .bool, [.any]⟩),
  (203, ⟨.other, 1, 8, .bool, [.any]⟩),
  (204, ⟨.other, 1, 8, .bool, [.any]⟩),
  (205, ⟨.other, 1, 8, .bool, [.any]⟩),
  (206, ⟨.other, 1, 8, .bool, [.any]⟩),
  (207, ⟨.other, 1, 8, .bool, [.any]⟩),
  (208, ⟨.other, 1, 8, .bool, [.any]⟩),
  (209, ⟨.other, 1, 8, .bool, [.any]⟩),
  (210, ⟨.other, 1, 8, .bool, [.any]⟩),
  (212, ⟨.other, 1, 8, .bool, [.any]⟩),
  (213, ⟨.other, 1, 8, .bool, [.any]⟩),
  (214, ⟨.other, 1, 8, .bool, [.any]⟩),
  (215, ⟨.other, 1, 8, .bool, [.any]⟩),
  (216, ⟨(.flt .f64), 1, 8, (.flt .f64), [.d (.flt .f64) (0 : Nat)]⟩),
  (217, ⟨.other, 1, 8, .bool, [.any]⟩),
  (218, ⟨.other, 1, 8, .bool, [.any]⟩),
  (219, ⟨.other, 1, 8, .bool, [.any]⟩),
  (220, ⟨.other, 1, 8, .bool, [.any]⟩),
  (221, ⟨.other, 1, 8, .bool, [.any]⟩),
  (222, ⟨.other, 1, 8, .bool, [.any]⟩),
  (223, ⟨.other, 1, 8, .bool, [.any]⟩),
  (224, ⟨.other, 1, 8, .bool, [.any]⟩),
  (225, ⟨.other, 1, 8, .bool, [.any]⟩),
  (226, ⟨.other, 1, 8, .bool, [.any]⟩),
  (227, ⟨(.struct [(0, 17), (1, 17), (2, 17), (3, 9)]), 4, 40, (.pair .bool (.pair .bool (.pair .bool (.pair .str .unit)))), [.nilp, .nilp, .nilp, .d .str ⟨#[]⟩]⟩),
  (228, ⟨(.struct [(0, 17), (1, 17), (2, 17), (3, 9)]), 4, 40, (.pair .bool (.pair .bool (.pair .bool (.pair .str .unit)))), [.nilp, .nilp, .nilp, .d .str ⟨#[]⟩]⟩),
  (229, ⟨(.array 0 16), 0, 0, .unit, []⟩),
  (230, ⟨(.struct [(0, 229)]), 0, 0, .unit, []⟩),
  (231, ⟨(.struct [(0, 229)]), 0, 0, .unit, []⟩),
  (232, ⟨.other, 1, 8, .bool, [.any]⟩),
  (233, ⟨(.int .u8), 1, 1, (.int .u8), [.d (.int .u8) (0 : Int)]⟩),
  (234, ⟨(.int .u8), 1, 1, (.int .u8), [.d (.int .u8) (0 : Int)]⟩),
  (235, ⟨.other, 1, 8, .bool, [.any]⟩),
  (236, ⟨(.int .i32), 1, 4, (.int .i32), [.d (.int .i32) (0 : Int)]⟩),
  (237, ⟨(.int .i32), 1, 4, (.int .i32), [.d (.int .i32) (0 : Int)]⟩),
  (238, ⟨(.struct [(0, 12), (1, 12), (2, 81), (3, 233), (4, 5), (5, 5), (6, 234), (7, 235), (8, 193), (9, 236), (10, 237)]), 11, 48, (.pair (.int .u64) (.pair (.int .u64) (.pair (.int .u32) (.pair (.int .u8) (.pair (.int .u8) (.pair (.int .u8) (.pair (.int .u8) (.pair .bool (.pair .bool (.pair (.int .i32) (.pair (.int .i32) .unit))))))))))), [.d (.int .u64) (0 : Int), .d (.int .u64) (0 : Int), .d (.int .u32) (0 : Int), .d (.int .u8) (0 : Int), .d (.int .u8) (0 : Int), .d (.int .u8) (0 : Int), .d (.int .u8) (0 : Int), .any, .nilp, .d (.int .i32) (0 : Int), .d (.int .i32) (0 : Int)]⟩),
  (239, ⟨(.struct [(0, 12), (1, 12), (2, 81), (3, 233), (4, 5), (5, 5), (6, 234), (7, 235), (8, 193), (9, 236), (10, 237)]), 11, 48, (.pair (.int .u64) (.pair (.int .u64) (.pair (.int .u32) (.pair (.int .u8) (.pair (.int .u8) (.pair (.int .u8) (.pair (.int .u8) (.pair .bool (.pair .bool (.pair (.int .i32) (.pair (.int .i32) .unit))))))))))), [.d (.int .u64) (0 : Int), .d (.int .u64) (0 : Int), .d (.int .u32) (0 : Int), .d (.int .u8) (0 : Int), .d (.int .u8) (0 : Int), .d (.int .u8) (0 : Int), .d (.int .u8) (0 : Int), .any, .nilp, .d (.int .i32) (0 : Int), .d (.int .i32) (0 : Int)]⟩),
  (240, ⟨.other, 1, 8, .bool, [.any]⟩)
]
def TT : Types := fun t => get1 tyList t
end Go.Proofs.Ytmlolnaannoifaa

/- The table of types stands. -/
namespace Go.Proofs.Ytmlolnaannoifaa
theorem tt_ok : TyOK Try.prog TT := tyOK_of (by kernel_rfl)
theorem mixed : Try.prog.follows .mixedOrders = true := by kernel_rfl
end Go.Proofs.Ytmlolnaannoifaa

/- Small laws for the printed proofs. -/
namespace Go.Proofs.Ytmlolnaannoifaa

theorem conj_vc {α : Type} {l : List Prop} {q q' : Prop} {w v : α} (h : q → w = v → q') (hc : conj l q) (hw : w = v) : conj l q' := by
  induction l with
  | nil => exact h hc hw
  | cons p l ih => exact ⟨hc.1, ih hc.2⟩

theorem and_vc {α : Type} {p q q' : Prop} {w v : α} (h : q → w = v → q') (hc : p ∧ q) (hw : w = v) : p ∧ q' := ⟨hc.1, h hc.2 hw⟩

theorem ite_vc {α : Type} {c : Prop} [Decidable c] {A B A' B' : Prop} {w w1 w2 : α} (h1 : A → w = w1 → A') (h2 : B → w = w2 → B') (hc : if c then A else B) (hw : w = if c then w1 else w2) : if c then A' else B' := by
  by_cases h : c
  · rw [if_pos h] at hc hw ⊢; exact h1 hc hw
  · rw [if_neg h] at hc hw ⊢; exact h2 hc hw

theorem envOK_of {P : Program} {l : List (Nat × FSpec)} (h : ∀ p ∈ l, Sound P p.1 p.2) : EnvOK P (fun f => get1 l f) := fun f fs hf => h (f, fs) (get1_some hf)

def bodyOf (f : Func) : Code := f.body.getD .skip

structure Holds (p : Prop) : Prop where
  out : p

theorem sound_h {P : Program} (hT : TyOK P TT) (hmix : P.follows .mixedOrders = true) {E : Env} (hE : EnvOK P E) {f : FuncId} {fn : Func} (hf : P.funcs[f]? = some fn) (hb : fn.body = some (bodyOf fn)) (hname : (fn.name == "runtime.NumGoroutine") = false) {fs : FSpec} {ann : PsT fs.ps → Nat → Option Ann}
    (h : ∀ args : PsT fs.ps, (∀ p ∈ fs.pre args, p) → Holds (evFun TT E fn.ntmps (ann args) (bodyOf fn) fn.results.toList fs.ps fs.rs args (fun r o => (r, o) = fs.fn args))) : Sound P f fs :=
  evFun_sound hT hE hmix hf hb hname fun x hx => ⟨ann x, (h x hx).out⟩

end Go.Proofs.Ytmlolnaannoifaa

/- Loops as plain functions: a step again and again, up to an end; and small laws for the printed proofs. -/
namespace Go.Proofs.Ytmlolnaannoifaa

section
variable {K W : Type}

/-- It ends within so many steps, and each step's conditions hold. -/
def Steps (pre : K → Prop) (step : K → K ⊕ W) : Nat → K → Prop
  | 0, _ => False
  | n + 1, k => pre k ∧ match step k with
    | .inl k' => Steps pre step n k'
    | .inr _ => True

def Ends (pre : K → Prop) (step : K → K ⊕ W) (k : K) : Prop := ∃ n, Steps pre step n k

def runL (step : K → K ⊕ W) (d : W) : Nat → K → W
  | 0, _ => d
  | n + 1, k => match step k with
    | .inl k' => runL step d n k'
    | .inr w => w

abbrev Stops (step : K → K ⊕ W) (n : Nat) (k : K) : Prop := Steps (fun _ => True) step n k

open Classical in
noncomputable def loopW (step : K → K ⊕ W) (d : W) (k : K) : W :=
  if h : ∃ n, Stops step n k then runL step d (Classical.choose h) k else d

open Classical in
noncomputable def depth (pre : K → Prop) (step : K → K ⊕ W) (k : K) : Nat :=
  if h : Ends pre step k then Classical.choose (exists_min (P := fun n => Steps pre step n k) (Classical.choose_spec h)) else 0

variable {pre : K → Prop} {step : K → K ⊕ W} {d : W}

theorem Steps.stops : ∀ {n : Nat} {k : K}, Steps pre step n k → Stops step n k
  | 0, _, h => h.elim
  | n + 1, k, h => by
    refine ⟨trivial, ?_⟩
    have h2 := h.2
    split
    · rename_i k' hs
      rw [hs] at h2
      exact Steps.stops h2
    · trivial

theorem runL_eq {pre' : K → Prop} : ∀ {n m : Nat} {k : K}, Steps pre step n k → Steps pre' step m k → runL step d n k = runL step d m k
  | 0, _, _, h, _ => h.elim
  | _, 0, _, _, h => h.elim
  | n + 1, m + 1, k, h1, h2 => by
    simp only [runL]
    cases hs : step k with
    | inr w => rfl
    | inl k' =>
      have a1 := h1.2
      have a2 := h2.2
      rw [hs] at a1 a2
      exact runL_eq a1 a2

theorem Ends.cond {k : K} (h : Ends pre step k) : pre k := by
  obtain ⟨n, h⟩ := h
  cases n with
  | zero => exact h.elim
  | succ n => exact h.1

theorem Ends.next {k k' : K} (h : Ends pre step k) (hs : step k = .inl k') : Ends pre step k' := by
  obtain ⟨n, h⟩ := h
  cases n with
  | zero => exact h.elim
  | succ n =>
    have a := h.2
    rw [hs] at a
    exact ⟨n, a⟩

theorem Ends.of_stop {k : K} {w : W} (hp : pre k) (hs : step k = .inr w) : Ends pre step k := ⟨1, hp, by rw [hs]; trivial⟩

theorem Ends.of_next {k k' : K} (hp : pre k) (hs : step k = .inl k') (h : Ends pre step k') : Ends pre step k := by
  obtain ⟨n, h⟩ := h
  exact ⟨n + 1, hp, by rw [hs]; exact h⟩

theorem loopW_run {k : K} {n : Nat} (h : Steps pre step n k) : loopW step d k = runL step d n k := by
  unfold loopW
  have he : ∃ n, Stops step n k := ⟨n, h.stops⟩
  rw [dif_pos he]
  exact runL_eq (Classical.choose_spec he) h

theorem loopW_stop {k : K} {w : W} (hs : step k = .inr w) : loopW step d k = w := by
  have h : Stops step 1 k := ⟨trivial, by rw [hs]; trivial⟩
  rw [loopW_run h]
  simp only [runL, hs]

theorem loopW_next {k k' : K} (hs : step k = .inl k') : loopW step d k = loopW step d k' := by
  by_cases h : ∃ n, Stops step n k
  · obtain ⟨n, h⟩ := h
    rw [loopW_run h]
    cases n with
    | zero => exact h.elim
    | succ n =>
      have a := h.2
      rw [hs] at a
      rw [loopW_run a]
      simp only [runL, hs]
  · have h' : ¬ ∃ n, Stops step n k' := fun ⟨n, hn⟩ => h ⟨n + 1, trivial, by rw [hs]; exact hn⟩
    unfold loopW
    rw [dif_neg h, dif_neg h']

theorem depth_next {k k' : K} (h : Ends pre step k) (hs : step k = .inl k') : depth pre step k' < depth pre step k := by
  have h' := Ends.next h hs
  unfold depth
  rw [dif_pos h, dif_pos h']
  obtain ⟨q1, q2⟩ := Classical.choose_spec (exists_min (P := fun n => Steps pre step n k) (Classical.choose_spec h))
  obtain ⟨r1, r2⟩ := Classical.choose_spec (exists_min (P := fun n => Steps pre step n k') (Classical.choose_spec h'))
  generalize Classical.choose (exists_min (P := fun n => Steps pre step n k) (Classical.choose_spec h)) = n at q1 q2
  generalize Classical.choose (exists_min (P := fun n => Steps pre step n k') (Classical.choose_spec h')) = m at r1 r2
  cases n with
  | zero => exact q1.elim
  | succ n =>
    have a := q1.2
    rw [hs] at a
    have := r2 n a
    omega

end

/-- A function's road, told once: what is asked on it, and where it ends. -/
inductive VT : Type → Type 1 where
  | ret {ρ : Type} (w : ρ) : VT ρ
  | step {ρ : Type} (p : Prop) (r : VT ρ) : VT ρ
  | pre {ρ : Type} (l : List Prop) (r : VT ρ) : VT ρ
  | ite {ρ : Type} (b : Bool) (t e : VT ρ) : VT ρ
  | pb {ρ : Type} (p : Prop) (t e : VT ρ) : VT ρ
  | exit {ρ K : Type} (t : VT ρ) : VT (K ⊕ ρ)
  | next {ρ K : Type} (k : K) (E : K → Prop → Prop) (hE : ∀ q : Prop, q → E k q) : VT (K ⊕ ρ)
  | loop {ρ K : Type} (k : K) (E : K → Prop → Prop) (hE : ∀ q : Prop, q → E k q) (d : ρ) (body : K → VT (K ⊕ ρ)) : VT ρ

namespace VT
/-- Where it ends. -/
noncomputable def W {ρ : Type} (t : VT ρ) : ρ :=
  VT.rec (motive := fun ρ _ => ρ) (fun w => w) (fun _ _ ih => ih) (fun _ _ ih => ih) (fun b _ _ i1 i2 => if b = true then i1 else i2) (fun _ _ _ _ i2 => i2)
    (fun _ ih => .inr ih) (fun k _ _ => .inl k) (fun k _ _ d _ ih => loopW ih d k) t

/-- What is asked on it. -/
noncomputable def U {ρ : Type} (t : VT ρ) : Prop :=
  VT.rec (motive := fun _ _ => Prop) (fun _ => True) (fun p _ ih => p ∧ ih) (fun l _ ih => conj l ih) (fun b _ _ i1 i2 => if b = true then i1 else i2) (fun p t e i1 i2 => (p → i1 ∧ W t = W e) ∧ i2)
    (fun _ ih => ih) (fun _ _ _ => True) (fun k _ _ _ body ih => Ends ih (fun k => W (body k)) k) t

/-- What the walk asks, if the end shall fulfil something. -/
noncomputable def V {ρ : Type} (t : VT ρ) : (ρ → Prop) → Prop :=
  VT.rec (motive := fun ρ _ => (ρ → Prop) → Prop) (fun w T => T w) (fun p _ ih T => p ∧ ih T) (fun l _ ih T => conj l (ih T)) (fun b _ _ i1 i2 T => if b = true then i1 T else i2 T) (fun p _ _ i1 i2 T => (p → i1 T) ∧ i2 T)
    (fun _ ih T => ih fun r => T (.inr r)) (fun _ E _ T => ∃ y, E y (T (.inl y)))
    (fun {ρ K} _ E _ _ _ ih T => ∃ y : K, E y (∃ (Inv : K → Prop) (μ : K → Nat), Inv y ∧ ∀ k', Inv k' → ih k' (Sum.elim (fun z => Inv z ∧ μ z < μ k') T))) t

variable {ρ K : Type}
@[simp] theorem W_ret (w : ρ) : W (.ret w) = w := rfl
@[simp] theorem W_step (p : Prop) (r : VT ρ) : W (.step p r) = W r := rfl
@[simp] theorem W_pre (l : List Prop) (r : VT ρ) : W (.pre l r) = W r := rfl
@[simp] theorem W_ite (b : Bool) (t e : VT ρ) : W (.ite b t e) = if b = true then W t else W e := rfl
@[simp] theorem W_pb (p : Prop) (t e : VT ρ) : W (.pb p t e) = W e := rfl
@[simp] theorem W_exit (t : VT ρ) : W (.exit t : VT (K ⊕ ρ)) = .inr (W t) := rfl
@[simp] theorem W_next (k : K) (E : K → Prop → Prop) (hE : ∀ q : Prop, q → E k q) : W (.next k E hE : VT (K ⊕ ρ)) = .inl k := rfl
@[simp] theorem W_loop (k : K) (E : K → Prop → Prop) (hE : ∀ q : Prop, q → E k q) (d : ρ) (body : K → VT (K ⊕ ρ)) : W (.loop k E hE d body) = loopW (fun k => W (body k)) d k := rfl
@[simp] theorem U_ret (w : ρ) : U (.ret w) = True := rfl
@[simp] theorem U_step (p : Prop) (r : VT ρ) : U (.step p r) = (p ∧ U r) := rfl
@[simp] theorem U_pre (l : List Prop) (r : VT ρ) : U (.pre l r) = conj l (U r) := rfl
@[simp] theorem U_ite (b : Bool) (t e : VT ρ) : U (.ite b t e) = if b = true then U t else U e := rfl
@[simp] theorem U_pb (p : Prop) (t e : VT ρ) : U (.pb p t e) = ((p → U t ∧ W t = W e) ∧ U e) := rfl
@[simp] theorem U_exit (t : VT ρ) : U (.exit t : VT (K ⊕ ρ)) = U t := rfl
@[simp] theorem U_next (k : K) (E : K → Prop → Prop) (hE : ∀ q : Prop, q → E k q) : U (.next k E hE : VT (K ⊕ ρ)) = True := rfl
@[simp] theorem U_loop (k : K) (E : K → Prop → Prop) (hE : ∀ q : Prop, q → E k q) (d : ρ) (body : K → VT (K ⊕ ρ)) : U (.loop k E hE d body) = Ends (fun k => U (body k)) (fun k => W (body k)) k := rfl

theorem conj_map {l : List Prop} {q q' : Prop} (h : q → q') (hc : conj l q) : conj l q' := by
  induction l with
  | nil => exact h hc
  | cons p l ih => exact ⟨hc.1, ih hc.2⟩

/-- The walk is through, if what is asked holds. -/
theorem sound (t : VT ρ) : ∀ {T : ρ → Prop}, U t → T (W t) → V t T := by
  induction t with
  | ret w => intro T _ h; exact h
  | step p r ih => intro T hu h; exact ⟨hu.1, ih hu.2 h⟩
  | pre l r ih => intro T hu h; exact conj_map (fun hr => ih hr h) hu
  | ite b t e i1 i2 =>
    intro T hu h
    cases b with
    | true => exact i1 hu h
    | false => exact i2 hu h
  | pb p t e i1 i2 => intro T hu h; exact ⟨fun hp => i1 (hu.1 hp).1 (by rw [(hu.1 hp).2]; exact h), i2 hu.2 h⟩
  | exit t ih => intro T hu h; exact ih hu h
  | next k E hE => intro T _ h; exact ⟨k, hE _ h⟩
  | @loop ρ K k E hE d body ih =>
    intro T hu h
    have hu : Ends (fun k => U (body k)) (fun k => W (body k)) k := hu
    have h : T (loopW (fun k => W (body k)) d k) := h
    refine ⟨k, hE _ ⟨fun k => Ends (fun k => U (body k)) (fun k => W (body k)) k ∧ T (loopW (fun k => W (body k)) d k), depth (fun k => U (body k)) (fun k => W (body k)), ⟨hu, h⟩, fun k' hk => ?_⟩⟩
    refine ih k' (Ends.cond hk.1) ?_
    cases hs : W (body k') with
    | inl z =>
      refine ⟨⟨Ends.next hk.1 hs, ?_⟩, depth_next hk.1 hs⟩
      have := hk.2
      rw [loopW_next hs] at this
      exact this
    | inr r =>
      have := hk.2
      rw [loopW_stop hs] at this
      exact this

/-- What is asked holds, and the end fulfils something. -/
def H (t : VT ρ) (P : ρ → Prop) : Prop := U t ∧ P (W t)

theorem H_ret {w : ρ} {P : ρ → Prop} (h : P w) : H (.ret w) P := ⟨trivial, h⟩
theorem H_step {p : Prop} {r : VT ρ} {P : ρ → Prop} (hp : p) (h : H r P) : H (.step p r) P := ⟨⟨hp, h.1⟩, h.2⟩
theorem conj_in {l : List Prop} {q : Prop} (hl : ∀ p ∈ l, p) (h : q) : conj l q := by
  induction l with
  | nil => exact h
  | cons p l ih => exact ⟨hl p (by simp), ih fun q hq => hl q (by simp [hq])⟩
theorem H_pre {l : List Prop} {r : VT ρ} {P : ρ → Prop} (hl : ∀ p ∈ l, p) (h : H r P) : H (.pre l r) P := ⟨conj_in hl h.1, h.2⟩
theorem H_ite {b : Bool} {t e : VT ρ} {P : ρ → Prop} (h1 : b = true → H t P) (h2 : b = false → H e P) : H (.ite b t e) P := by
  cases b with
  | true => exact h1 rfl
  | false => exact h2 rfl
theorem H_pb {p : Prop} {t e : VT ρ} {P : ρ → Prop} (h1 : p → U t ∧ W t = W e) (h2 : H e P) : H (.pb p t e) P := ⟨⟨h1, h2.1⟩, h2.2⟩
theorem H_exit {t : VT ρ} {P : K ⊕ ρ → Prop} (h : H t fun r => P (.inr r)) : H (.exit t : VT (K ⊕ ρ)) P := h
theorem H_next {k : K} {E : K → Prop → Prop} {hE : ∀ q : Prop, q → E k q} {P : K ⊕ ρ → Prop} (h : P (.inl k)) : H (.next k E hE : VT (K ⊕ ρ)) P := ⟨trivial, h⟩
theorem H_mono {t : VT ρ} {P P' : ρ → Prop} (h : H t P) (hP : ∀ r, P r → P' r) : H t P' := ⟨h.1, hP _ h.2⟩

@[simp] theorem H_ret_iff {w : ρ} {P : ρ → Prop} : H (.ret w) P ↔ P w := ⟨fun h => h.2, H_ret⟩
@[simp] theorem H_step_iff {p : Prop} {r : VT ρ} {P : ρ → Prop} : H (.step p r) P ↔ p ∧ H r P := ⟨fun h => ⟨h.1.1, h.1.2, h.2⟩, fun h => H_step h.1 h.2⟩
theorem conj_out' {l : List Prop} {q : Prop} (h : conj l q) : (∀ p ∈ l, p) ∧ q := by
  induction l with
  | nil => exact ⟨fun p hp => by simp at hp, h⟩
  | cons p l ih =>
    obtain ⟨h1, h2⟩ := h
    obtain ⟨h3, h4⟩ := ih h2
    exact ⟨fun q hq => by rcases List.mem_cons.1 hq with rfl | hq; exact h1; exact h3 q hq, h4⟩
@[simp] theorem H_pre_iff {l : List Prop} {r : VT ρ} {P : ρ → Prop} : H (.pre l r) P ↔ (∀ p ∈ l, p) ∧ H r P := ⟨fun h => ⟨(conj_out' h.1).1, (conj_out' h.1).2, h.2⟩, fun h => H_pre h.1 h.2⟩
@[simp] theorem H_ite_iff {b : Bool} {t e : VT ρ} {P : ρ → Prop} : H (.ite b t e) P ↔ if b = true then H t P else H e P := by cases b <;> exact Iff.rfl
@[simp] theorem H_exit_iff {t : VT ρ} {P : K ⊕ ρ → Prop} : H (.exit t : VT (K ⊕ ρ)) P ↔ H t fun r => P (.inr r) := Iff.rfl
@[simp] theorem H_next_iff {k : K} {E : K → Prop → Prop} {hE : ∀ q : Prop, q → E k q} {P : K ⊕ ρ → Prop} : H (.next k E hE : VT (K ⊕ ρ)) P ↔ P (.inl k) := ⟨fun h => h.2, H_next⟩
theorem H_in {t : VT ρ} {P : ρ → Prop} (h : H t P) : (∀ p ∈ [U t], p) ∧ P (W t) := ⟨fun p hp => by rw [List.mem_singleton.1 hp]; exact h.1, h.2⟩

/-- A loop, by an invariant and a measure. -/
theorem H_loop {k : K} {E : K → Prop → Prop} {hE : ∀ q : Prop, q → E k q} {d : ρ} {body : K → VT (K ⊕ ρ)} {P : ρ → Prop} (Inv : K → Prop) (μ : K → Nat) (h0 : Inv k)
    (hb : ∀ k, Inv k → H (body k) fun r => match r with
      | .inl k' => Inv k' ∧ μ k' < μ k
      | .inr w => P w) : H (.loop k E hE d body) P := by
  have key : ∀ n, ∀ k, μ k < n → Inv k → Ends (fun k => U (body k)) (fun k => W (body k)) k ∧ P (loopW (fun k => W (body k)) d k) := by
    intro n
    induction n with
    | zero => intro k hk; omega
    | succ n ih =>
      intro k hk hi
      obtain ⟨h1, h2⟩ := hb k hi
      cases hs : W (body k) with
      | inl k' =>
        rw [hs] at h2
        obtain ⟨q1, q2⟩ := ih k' (by have := h2.2; omega) h2.1
        exact ⟨Ends.of_next h1 hs q1, by rw [loopW_next hs]; exact q2⟩
      | inr w =>
        rw [hs] at h2
        exact ⟨Ends.of_stop h1 hs, by rw [loopW_stop hs]; exact h2⟩
  exact key _ k (Nat.lt_succ_self _) h0
end VT

section
variable {K W : Type} {pre : K → Prop} {step : K → K ⊕ W} {d : W}
/-- A loop's function by an invariant. -/
theorem loop_rule {Inv : K → Prop} {μ : K → Nat} {R : K → W → Prop} (hstep : ∀ k, Inv k → pre k ∧ match step k with
    | .inl k' => Inv k' ∧ μ k' < μ k ∧ ∀ w, R k' w → R k w
    | .inr w => R k w) {k : K} (h : Inv k) : Ends pre step k ∧ R k (loopW step d k) := by
  obtain ⟨n, hn⟩ : ∃ n, μ k < n := ⟨μ k + 1, Nat.lt_succ_self _⟩
  induction n generalizing k with
  | zero => omega
  | succ n ih =>
    obtain ⟨hp, hs⟩ := hstep k h
    cases hk : step k with
    | inl k' =>
      rw [hk] at hs
      obtain ⟨a, b, c⟩ := hs
      obtain ⟨q1, q2⟩ := ih a (by omega)
      refine ⟨Ends.of_next hp hk q1, ?_⟩
      rw [loopW_next hk]
      exact c _ q2
    | inr w =>
      rw [hk] at hs
      refine ⟨Ends.of_stop hp hk, ?_⟩
      rw [loopW_stop hk]
      exact hs
end

section
variable {P : Program}
open Classical in
/-- A function that calls itself: the first number of rounds that is enough. -/
noncomputable def recF {A B : Type} (pk : Nat → A → List Prop) (fk : Nat → A → B) (x : A) : B :=
  if h : ∃ n, ∀ p ∈ pk n x, p then fk (Classical.choose h) x else fk 0 x

theorem rec_sound {f : FuncId} {ps : List PK} {rs : List RK} {pk : Nat → PsT ps → List Prop} {fk : Nat → PsT ps → RsT rs × OsT ps}
    (h0 : ∀ x, ¬ ∀ p ∈ pk 0 x, p) (hs : ∀ n, Sound P f ⟨ps, rs, pk n, fk n⟩ → Sound P f ⟨ps, rs, pk (n + 1), fk (n + 1)⟩) :
    Sound P f ⟨ps, rs, fun x => [∃ n, ∀ p ∈ pk n x, p], recF pk fk⟩ := by
  have hk : ∀ n, Sound P f ⟨ps, rs, pk n, fk n⟩ := by
    intro n
    induction n with
    | zero => intro U w vs args io _ _ _ h; exact absurd h (h0 args)
    | succ n ih => exact hs n ih
  intro U w vs args io h1 h2 h3 h4
  have he : ∃ n, ∀ p ∈ pk n args, p := h4 _ (List.mem_singleton.2 rfl)
  have := hk (Classical.choose he) U w vs args io h1 h2 h3 (Classical.choose_spec he)
  have e : recF pk fk args = fk (Classical.choose he) args := by unfold recF; rw [dif_pos he]
  show CallOK P f vs.toArray w fun v w' => ∃ U' rvs b1 b2, Post io U w U' w' ∧ v = valOf rvs ∧ ResL U' w' rs (recF pk fk args).1 rvs b1 ∧ OutsR U' w' ps (recF pk fk args).2 vs b2 ∧
      (b1 ++ b2).Nodup ∧ ∀ b ∈ b1 ++ b2, w.heap.size ≤ b ∨ b ∈ io
  rw [e]
  exact this
end
end Go.Proofs.Ytmlolnaannoifaa

/- Functions without a body: what the model's table says of them. -/
namespace Go.Proofs.Ytmlolnaannoifaa

/-- An extern of one operand. -/
theorem extern_sound {P : Program} {f : FuncId} {fn : Func} {e : Array Value → Sem Value} {a r : Kd} {pre : a.T → Prop} {p : a.T → r.T}
    (hf : P.funcs[f]? = some fn) (hb : fn.body = none) (hname : (fn.name == "runtime.NumGoroutine") = false) (hn : (Extern.findNext fn).isNone = true) (he : Extern.find fn = some e)
    (ha : ∀ U w (x : a.T) l bs, TR U w a x l bs → CR U w a x l ∧ bs = []) (hr : ∀ U w (x : r.T) l, CR U w r x l → TR U w r x l [])
    (h : ∀ U w v x, CR U w a x [v] → pre x → ∃ v' w', (e #[v]).run P w = .ok v' w' ∧ Quiet w w' ∧ oneC v' = true ∧ CR U w' r (p x) [v']) :
    Sound P f ⟨[.val a], [.one r], fun x => [pre x.1], fun x => ((p x.1, ()), ())⟩ := by
  intro U w vs args io hU hA hio hpre
  obtain ⟨v, r', b1, b2, rfl, rfl, ⟨h1, h2⟩, rfl, rfl⟩ := hA
  have h3 := (ha _ _ _ _ _ h2).1
  obtain rfl := (ha _ _ _ _ _ h2).2
  obtain ⟨v', w', k1, k2, k3, k4⟩ := h U w v args.1 h3 (hpre _ (List.mem_singleton.2 rfl))
  have hnn : Extern.findNext fn = none := by
    cases hx : Extern.findNext fn with
    | none => rfl
    | some _ => rw [hx] at hn; cases hn
  have hrun : (callFunc f #[v]).run P w = .ok (.value v') w' := by
    have hn0 : fn.name ≠ "runtime.NumGoroutine" := fun he => by rw [he] at hname; simp at hname
    unfold callFunc
    simp only [Sem.run_bind, program, Sem.run, Result.andThen_ok, hf]
    simp [hn0, hb, hnn, he, mark, Sem.run, Sem.run_bind, k1]
  unfold CallOK
  rw [show [v].toArray = #[v] from rfl, hrun]
  simp only
  refine ⟨U, [v'], [], [], ?_, rfl, ⟨v', [], [], [], rfl, rfl, ⟨k3, hr _ _ _ _ k4⟩, rfl, rfl⟩, ⟨v, [], rfl, rfl, rfl⟩, by simp, fun b hb => by simp at hb⟩
  exact (Post.refl hU).step (Post.quiet k2 hU) (by simp)

theorem tr_int {k : IntKind} (U : Addr → Prop) (w : World) (x : (Kd.int k).T) (l : List Value) (bs : List Nat) (h : TR U w (.int k) x l bs) : CR U w (.int k) x l ∧ bs = [] := h
theorem tr_flt {k : FloatKind} (U : Addr → Prop) (w : World) (x : (Kd.flt k).T) (l : List Value) (bs : List Nat) (h : TR U w (.flt k) x l bs) : CR U w (.flt k) x l ∧ bs = [] := h
theorem rt_int {k : IntKind} (U : Addr → Prop) (w : World) (x : (Kd.int k).T) (l : List Value) (h : CR U w (.int k) x l) : TR U w (.int k) x l [] := ⟨h, rfl⟩
theorem rt_flt {k : FloatKind} (U : Addr → Prop) (w : World) (x : (Kd.flt k).T) (l : List Value) (h : CR U w (.flt k) x l) : TR U w (.flt k) x l [] := ⟨h, rfl⟩

def fsqrt (x : Nat) : Nat := (FloatKind.f64.format.sqrt x).getD (nanB .f64)
def fint (way : Ieee.Toward) (x : Nat) : Nat := if isNaNB .f64 x then nanB .f64 else FloatKind.f64.encode ((FloatKind.f64.decode x).integral way)

theorem cr_flt {U : Addr → Prop} {w : World} {k : FloatKind} {x : Nat} {v : Value} (h : CR U w (.flt k) x [v]) : ∃ b, v = .float k b ∧ FEq k x b := by
  obtain ⟨b, h, hf⟩ := h
  simp only [List.cons.injEq, and_true] at h
  exact ⟨b, h, hf⟩
theorem cr_int {U : Addr → Prop} {w : World} {k : IntKind} {x : Int} {v : Value} (h : CR U w (.int k) x [v]) : v = .int k x := by
  simpa [CR] using h

theorem ext_bits {P : Program} {k : FloatKind} {i : IntKind} {e : Array Value → Sem Value} (he : ∀ b : Nat, e #[.float k b] = pure (.int i (b : Int))) (U : Addr → Prop) (w : World) (v : Value) (x : Nat) (h : CR U w (.flt k) x [v]) (hx : isNaNB k x = false) :
    ∃ v' w', (e #[v]).run P w = .ok v' w' ∧ Quiet w w' ∧ oneC v' = true ∧ CR U w' (.int i) (x : Int) [v'] := by
  obtain ⟨b, rfl, hf⟩ := cr_flt h
  rcases hf with rfl | hf
  · exact ⟨_, w, by rw [he]; rfl, Quiet.refl _, rfl, rfl⟩
  · rw [hf.1] at hx; cases hx

theorem ext_from {P : Program} {k : FloatKind} {i : IntKind} {e : Array Value → Sem Value} (he : ∀ n : Int, e #[.int i n] = pure (.float k n.toNat)) (U : Addr → Prop) (w : World) (v : Value) (x : Int) (h : CR U w (.int i) x [v]) (_ : True) :
    ∃ v' w', (e #[v]).run P w = .ok v' w' ∧ Quiet w w' ∧ oneC v' = true ∧ CR U w' (.flt k) x.toNat [v'] := by
  obtain rfl := cr_int h
  exact ⟨_, w, by rw [he]; rfl, Quiet.refl _, rfl, _, rfl, .inl rfl⟩

theorem ext_sqrt {P : Program} (U : Addr → Prop) (w : World) (v : Value) (x : Nat) (h : CR U w (.flt .f64) x [v]) (_ : True) :
    ∃ v' w', (Extern.MathSqrt.sqrt #[v]).run P w = .ok v' w' ∧ Quiet w w' ∧ oneC v' = true ∧ CR U w' (.flt .f64) (fsqrt x) [v'] := by
  obtain ⟨b, rfl, hf⟩ := cr_flt h
  have hb : FloatKind.f64.format.sqrt b = FloatKind.f64.format.sqrt x := by
    rcases hf with rfl | ⟨h1, h2⟩
    · rfl
    · obtain ⟨s, t, h1⟩ := read_nan h1
      obtain ⟨s', t', h2⟩ := read_nan h2
      unfold Ieee.Format.sqrt
      rw [h1, h2]; rfl
  rw [show Extern.MathSqrt.sqrt #[.float .f64 b] = (match FloatKind.f64.format.sqrt b with | some r => pure (.float .f64 r) | none => do pure (.float .f64 (← choose (.nanBits .f64 b b)))) from rfl, hb]
  unfold fsqrt
  cases hs : FloatKind.f64.format.sqrt x with
  | some r => exact ⟨_, w, rfl, Quiet.refl _, rfl, _, rfl, .inl rfl⟩
  | none =>
    refine ⟨_, { w with drawn := w.drawn + 1 }, by simp [choose, Sem.run, Question.forced]; rfl, ⟨rfl, rfl, rfl, rfl⟩, rfl, _, rfl, .inr ⟨by decide +kernel, nan_cut_bits .f64 b b _⟩⟩

theorem quiet_nan (s : Bool) (t : Nat) : isNaNB .f64 (FloatKind.f64.encode (.nan s (FloatKind.f64.format.quiet t))) = true := by
  show isNaNB .f64 (Ieee.double.word s (Ieee.double.infRung + Ieee.double.quiet t % Ieee.double.binade)) = true
  have hq : Ieee.double.quiet t % Ieee.double.binade ≠ 0 := by
    intro h
    have : ((t ||| 2 ^ 51) % 2 ^ 52).testBit 51 = true := by
      rw [Nat.testBit_mod_two_pow]
      rw [Nat.testBit_or]
      have : Nat.testBit (2 ^ 51) 51 = true := by decide +kernel
      rw [this]; simp
    have h' : (t ||| 2 ^ 51) % 2 ^ 52 = 0 := h
    rw [h'] at this
    simp at this
  have hl : Ieee.double.quiet t % Ieee.double.binade < 4503599627370496 := Nat.mod_lt _ (by decide)
  apply nan_of_rung
  have h1 : FloatKind.f64.format.infRung = 9218868437227405312 := by decide
  have h1' : Ieee.double.infRung = 9218868437227405312 := by decide
  have h2 : FloatKind.f64.format.signWeight = 9223372036854775808 := by decide
  have h2' : Ieee.double.signWeight = 9223372036854775808 := by decide
  unfold Ieee.Format.word
  rw [h1, h2, h1', h2']
  generalize Ieee.double.quiet t % Ieee.double.binade = q at hq hl
  cases s <;> simp <;> omega

theorem ext_int {P : Program} {name : String} {way : Ieee.Toward} (U : Addr → Prop) (w : World) (v : Value) (x : Nat) (h : CR U w (.flt .f64) x [v]) (_ : True) :
    ∃ v' w', (Extern.MathFloor.toIntegral name way #[v]).run P w = .ok v' w' ∧ Quiet w w' ∧ oneC v' = true ∧ CR U w' (.flt .f64) (fint way x) [v'] := by
  have eq : ∀ b : Nat, Extern.MathFloor.toIntegral name way #[.float .f64 b] = (match FloatKind.f64.decode b with
    | .nan s t =>
      if FloatKind.f64.format.quiet t = t then pure (.float .f64 b) else do
      let kept ← choose (.extern "math.Floor,Ceil,Trunc,RoundToEven.signallingNaN kept" 2)
      pure (.float .f64 (if kept == 1 then b else FloatKind.f64.encode (.nan s (FloatKind.f64.format.quiet t))))
    | d => pure (.float .f64 (FloatKind.f64.encode (d.integral way)))) := fun _ => rfl
  obtain ⟨b, rfl, hf⟩ := cr_flt h
  rw [eq]
  by_cases hx : isNaNB .f64 b = true
  · have hxx : isNaNB .f64 x = true := by
      rcases hf with rfl | hf
      · exact hx
      · exact hf.1
    obtain ⟨s, t, hd⟩ := read_nan hx
    have hfi : fint way x = nanB .f64 := by unfold fint; rw [if_pos hxx]
    rw [hfi]
    have hdd : FloatKind.f64.decode b = .nan s t := hd
    have hnb : isNaNB .f64 (nanB .f64) = true := by decide +kernel
    rw [hdd]
    simp only
    split
    · exact ⟨_, w, rfl, Quiet.refl _, rfl, _, rfl, .inr ⟨hnb, hx⟩⟩
    · refine ⟨_, { w with drawn := w.drawn + 1 }, by simp [choose, Sem.run, Question.forced]; rfl, ⟨rfl, rfl, rfl, rfl⟩, rfl, _, rfl, .inr ⟨hnb, ?_⟩⟩
      split
      · exact hx
      · exact quiet_nan s t
  · have hxb : x = b := by
      rcases hf with rfl | hf
      · rfl
      · exact absurd hf.2 hx
    subst hxb
    have hfi : fint way x = FloatKind.f64.encode ((FloatKind.f64.decode x).integral way) := by unfold fint; rw [if_neg hx]
    rw [hfi]
    cases hd : FloatKind.f64.decode x with
    | nan s t => exact absurd (by unfold isNaNB; rw [show FloatKind.f64.format.read x = .nan s t from hd]; rfl) hx
    | number s m i => exact ⟨_, w, rfl, Quiet.refl _, rfl, _, rfl, .inl rfl⟩
    | infinity s => exact ⟨_, w, rfl, Quiet.refl _, rfl, _, rfl, .inl rfl⟩
end Go.Proofs.Ytmlolnaannoifaa

/- From a contract to a row: a law of two slices of bytes. -/
namespace Go.Proofs.Ytmlolnaannoifaa
open Go.ChangeShapes Go.WideShapes Go.ChangeAt Go.RowKit

theorem Try.own : ownKnob Try.prog.godebug = none := by kernel_rfl

/-- What the call leaves behind: as 'post_of_same', for a world that has grown. -/
theorem post_of_grown {H : Type} {enc : TypeId × Value → H} {P : Program} {f : Func} {s : ChangeSpec} {apart fresh handsOn again : Bool} {W W' : World} {args : Array Value} {v : Value} {ds gs : List (DataW H)} {before pa pv : List MemPlace}
    (hW : DataW.Whole enc P f.params.toList s.vars apart W args.toList ds gs before)
    (hres : ∀ (b : Nat) (sp : Nat → Bool) (hd : Bool), DataW.TrodAll enc P W' b sp hd f.resultTypes.toList (v.resultList f.resultTypes.size) (s.fn H (ds ++ gs)).results [])
    (hargs : ∀ sp : Nat → Bool, (∀ p ∈ before, sp p.block = true) → DataW.TrodAll enc P W' 0 sp true f.params.toList args.toList (s.fn H (ds ++ gs)).args pa)
    (hvars : ∀ sp : Nat → Bool, (∀ p ∈ before, sp p.block = true) → DataW.TrodVars enc P W' sp s.vars (s.fn H (ds ++ gs)).vars pv)
    (hps : before = pa ++ pv) (hk : W.keptBut W' (fun _ => False)) (hfz : ∀ a : Addr, a.block < W.heap.size → W'.frozen? a = W.frozen? a)
    (hok : ∀ (j : Nat) (t : TypeId) (r : Value), f.resultTypes[j]? = some t → (v.resultList f.resultTypes.size)[j]? = some r → Value.okWide P W' .any 0 t r) :
    s.post enc P f apart fresh handsOn again W args v W' := by
  have hold : ∀ p ∈ before, (fun b => decide (b < W.heap.size)) p.block = true := fun p hp => by simpa using hW.lt p hp
  refine ⟨ds, gs, before, [], pa, pv, hW, hres _ _ _, hargs _ hold, hvars _ hold, World.keptBut_mono (fun p hp => hp.elim) hk, fun _ => ?_⟩
  · have hlt := hW.lt
    obtain ⟨_, _, _, _, _, hz, hn⟩ := hW
    refine ⟨hok, _, _, ([] ++ pa) ++ pv, ⟨[] ++ pa, pv, trodAll_append (hargs _ (fun _ _ => rfl)) (hres _ _ _), hvars _ (fun _ _ => rfl), rfl, ?_, ?_⟩, ?_⟩
    · intro b off hp
      have hin : MemPlace.cell b off ∈ before := by rw [hps]; simpa using hp
      rw [hfz _ (by have := hlt _ hin; simpa [MemPlace.block] using this)]
      exact hz b off hin
    · intro ha
      have := hn ha
      rw [hps] at this
      simpa using this
    · intro p hp _
      rw [hps]
      simpa using hp

/-- A slice of bytes that came in, as the contract wants it. -/
structure BytesIn (W : World) (v : Value) (xs : List Int) (U : Addr → Prop) : Prop where
  bound : ∀ a, U a → a.spot = none ∧ a.block < W.heap.size
  cr : CR U W (.sl (.int .u8)) xs [v]
  byte : ∀ n ∈ xs, 0 ≤ n ∧ n ≤ 255

theorem bytes_in {H : Type} {enc : TypeId × Value → H} {P : Program} {W : World} {t e : TypeId} (ht : P.underlying t = some (.slice e)) (he : P.underlying e = some (.int .u8)) (hc : P.cellsOf e = 1)
    {v : Value} {d : DataW H} {p : List MemPlace} (hval : Value.okWide P W .any 0 t v) (hd : DataW.Trod enc P W 0 (fun _ => true) true t v d p) :
    (∃ xs U, BytesIn W v xs U) ∧ oneC v = true ∧ ∀ W' : World, (∀ g, g < W.heap.size → W'.heap[g]? = W.heap[g]?) → ∀ sp : Nat → Bool, (∀ q ∈ p, sp q.block = true) → DataW.Trod enc P W' 0 sp true t v d p := by
  obtain ⟨a0, len, cap, rfl⟩ := okWide_slice ht hval
  obtain ⟨fuel, hf⟩ := hd
  rcases open_ints ht he hc hf with ⟨hcs, hx⟩ | ⟨a, len', cap', zs, hcs, hb, hl, hm, hz, hx, hcell, hwz⟩
  · simp only [Value.cells, List.cons.injEq, Value.slice.injEq, and_true] at hcs
    obtain ⟨rfl, rfl, rfl⟩ := hcs
    simp only [Prod.mk.injEq] at hx
    obtain ⟨rfl, rfl⟩ := hx
    refine ⟨⟨[], fun _ => False, fun _ h => h.elim, ⟨none, 0, rfl, by simp, fun i hi => by simp at hi⟩, fun n hn => by simp at hn⟩, rfl, fun W' _ sp _ => shut_slice_nil ht⟩
  · simp only [Value.cells, List.cons.injEq, Value.slice.injEq, and_true] at hcs
    obtain ⟨rfl, rfl, rfl⟩ := hcs
    simp only [Prod.mk.injEq] at hx
    obtain ⟨rfl, rfl⟩ := hx
    simp only [if_true] at hz
    have hcl : ∀ i, i < len → W.cell? (a.add i) = some (.int .u8 ((zs.take len).getD i 0)) := fun i hi => by
      have := hcell i (by omega)
      rw [this]
      simp [List.getD, hi]
    have hlen : (zs.take len).length = len := by simp; omega
    have hblk : ∀ i, i < zs.length → (a.add i).spot = none ∧ a.block < W.heap.size := fun i hi => by
      have h := hcell i hi
      unfold World.cell? at h
      split at h
      · rename_i c _ _ hh
        split at h
        · cases h
        · rename_i hs
          rw [Addr.add_block] at hh
          exact ⟨by cases hsp : (a.add i).spot <;> simp_all, lt_of_heap hh⟩
      · cases h
    refine ⟨⟨zs.take len, fun x => ∃ i, i < len ∧ x = a.add i, ?_, ?_, fun n hn => ?_⟩, rfl, fun W' hW' sp hsp => ?_⟩
    · rintro x ⟨i, hi, rfl⟩
      rw [Addr.add_block]
      exact hblk i (by omega)
    · refine ⟨some a, cap, by rw [hlen], by rw [hlen]; exact hl, fun i hi => ?_⟩
      rw [hlen] at hi
      refine ⟨a, [.int .u8 (zs.take len)[i]], rfl, rfl, fun j hj => ?_, rfl⟩
      have hj0 : j = 0 := by simp [Kd.sz] at hj; exact hj
      subst hj0
      simp only [Kd.sz, Nat.mul_one, Nat.add_zero]
      refine ⟨⟨i, hi, rfl⟩, ?_⟩
      rw [hcl i hi]
      simp [List.getD, hi, hlen]
    · have := hwz n (List.mem_of_mem_take hn)
      simp only [Lit.wf, Bool.and_eq_true, decide_eq_true_eq] at this
      have h1 : IntKind.min .u8 = 0 := by decide
      have h2 : IntKind.max .u8 = 255 := by decide
      rw [h1, h2] at this
      exact this
    · have hcell' : ∀ i, i < zs.length → W'.cell? (a.add i) = some (.int .u8 (zs.getD i 0)) := fun i hi => by
        rw [cell_of_heap (hW' _ (by rw [Addr.add_block]; exact (hblk i hi).2))]
        exact hcell i hi
      by_cases h0 : zs.length = 0
      · have hz0 : zs = [] := List.length_eq_zero_iff.1 h0
        subst hz0
        have hcap : cap = 0 := by simpa using hz.symm
        subst hcap
        obtain rfl : len = 0 := by omega
        exact ⟨2, shut_ints 0 ht he hc (Nat.zero_le _) (Nat.le_refl _) hm (by simp) (fun i hi => by simp at hi) (fun n hn => by simp at hn)⟩
      · have hs : sp a.block = true := hsp (MemPlace.cell a.block (a.off + 0)) (List.mem_map.2 ⟨0, List.mem_range.2 (by omega), rfl⟩)
        exact ⟨2, shut_ints 0 ht he hc (Nat.zero_le _) hl hm (by rw [hs]; simpa using hz) hcell' hwz⟩

theorem keptBut_of_heap {W W' : World} (h1 : W'.os = W.os) (h2 : W'.output = W.output) (h : ∀ g, g < W.heap.size → W'.heap[g]? = W.heap[g]?) : W.keptBut W' (fun _ => False) := by
  refine ⟨h1, h2, fun i hi => ?_⟩
  rw [h i hi]
  cases hx : W.heap[i]? with
  | none => rfl
  | some o =>
    cases o with
    | cells c t fr => exact ⟨rfl, rfl, rfl, fun _ _ => rfl⟩
    | map es clock => exact .inr ⟨rfl, rfl⟩
    | _ => rfl

theorem frozen_of_heap {W W' : World} {a : Addr} (h : W'.heap[a.block]? = W.heap[a.block]?) : W'.frozen? a = W.frozen? a := by
  simp [World.frozen?, h]

set_option maxRecDepth 100000 in
/-- A law of two slices of bytes, out of its contract. -/
theorem call_of_sound {F : FuncId} {pre : PsT [.val (.sl (.int .u8)), .val (.sl (.int .u8))] → List Prop} {fn : PsT [.val (.sl (.int .u8)), .val (.sl (.int .u8))] → RsT [.one .bool] × OsT [.val (.sl (.int .u8)), .val (.sl (.int .u8))]}
    (hs : Sound Try.prog F ⟨[.val (.sl (.int .u8)), .val (.sl (.int .u8))], [.one .bool], pre, fn⟩)
    (hplain : ∀ a b : List Int, (∀ n ∈ a, 0 ≤ n ∧ n ≤ 255) → (∀ n ∈ b, 0 ≤ n ∧ n ≤ 255) → (∀ p ∈ pre (a, b, ()), p) ∧ (fn (a, b, ())).1.1 = true)
    {W : World} {v0 v1 : Value} {a b : List Int} {U1 U2 : Addr → Prop} (h1 : BytesIn W v0 a U1) (h2 : BytesIn W v1 b U2) (o1 : oneC v0 = true) (o2 : oneC v1 = true) :
    CallOK Try.prog F #[v0, v1] W fun v W' => v = .bool true ∧ W'.os = W.os ∧ W'.output = W.output ∧ ∀ g, g < W.heap.size → W'.heap[g]? = W.heap[g]? := by
  obtain ⟨q1, q2⟩ := hplain a b h1.byte h2.byte
  have hA : ArgsR Try.prog [] (fun x => U1 x ∨ U2 x) W [.val (.sl (.int .u8)), .val (.sl (.int .u8))] (a, b, ()) [v0, v1] [] :=
    ⟨v0, [v1], [], [], rfl, rfl, ⟨o1, CR.mono (fun _ h => .inl h) (fun _ _ => rfl) h1.cr, rfl⟩, v1, [], [], [], rfl, rfl, ⟨o2, CR.mono (fun _ h => .inr h) (fun _ _ => rfl) h2.cr, rfl⟩, rfl, rfl⟩
  refine (hs (fun x => U1 x ∨ U2 x) W [v0, v1] (a, b, ()) [] (fun x hx => hx.elim (h1.bound x) (h2.bound x)) hA List.nodup_nil q1).mono ?_
  rintro v W' ⟨U', rvs, b1, b2, hP, rfl, hres, _, _, _⟩
  obtain ⟨u, l, c1, c2, rfl, _, ⟨_, hu, _⟩, hl, _⟩ := hres
  obtain rfl : l = [] := hl
  have hu' : u = .bool (fn (a, b, ())).1.1 := by simpa [CR] using hu
  refine ⟨?_, hP.os, hP.output, fun g hg => hP.frame g hg (by simp)⟩
  show u = _
  rw [hu']
  exact congrArg Value.bool q2

theorem calls_of_ok {P : Program} {f : FuncId} {fn : Func} {body : Code} (hf : P.funcs[f]? = some fn) (hb : fn.body = some body) (hname : (fn.name == "runtime.NumGoroutine") = false) {vs : Array Value} {W : World} {R : Value → World → Prop} (h : CallOK P f vs W R) :
    Calls P f vs W fun e W' => ∃ v, e = .returned v ∧ R v W' := by
  have hn : fn.name ≠ "runtime.NumGoroutine" := fun he => by rw [he] at hname; simp at hname
  have hrun : (callFunc f vs).run P W = .ok (.enter f vs) W := by
    unfold callFunc
    simp only [Sem.run_bind, program, Sem.run, Result.andThen_ok, hf]
    simp [hn, hb]
  unfold CallOK at h
  rw [hrun] at h
  exact h

theorem okWide_bool_mk {P : Program} {W : World} {t : TypeId} {b : Bool} (ht : P.underlying t = some .bool) : Value.okWide P W .any 0 t (.bool b) := by
  simp [Value.okWide, ht, Cell.okWide, Cell.ok]
end Go.Proofs.Ytmlolnaannoifaa
