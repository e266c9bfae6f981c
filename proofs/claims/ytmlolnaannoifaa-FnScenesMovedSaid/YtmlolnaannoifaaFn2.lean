/- The functions of the program as plain functions and that they are so. -/
import Derived.Test.YtmlolnaannoifaaEv3
import Derived.Test.YtmlolnaannoifaaFn1
set_option linter.all false
set_option linter.unusedVariables false
set_option linter.unusedSimpArgs false

/- A function of the program as a plain function. Written by wip/gen/gen.py. -/
namespace Go.Proofs.Ytmlolnaannoifaa

/- 71 slices.ContainsFunc[[]int,int] -/
abbrev P71 : List PK := [.val (.sl (.int .i64)), .fnp (.int .i64) .bool]
abbrev R71 : List RK := [.one .bool]
abbrev X71 : Type := List Int × (Int → Bool) × Unit
abbrev W71 : Type := (Bool × Unit) × Unit
noncomputable def tr71 (p107 : X107 → List Prop) (f107 : X107 → W107) (x : X71) : VT W71 :=
  .pre (p107 (x.1, (x.2.1), ())) (
  let t7 := f107 (x.1, (x.2.1), ())
  let t8 := decide ((0 : Int) ≤ t7.1.1)
  .ret ((t8, ()), (())))
noncomputable def pp71 (x : X71) : List Prop := [(tr71 pp107 ff107 x).U]
noncomputable def ff71 (x : X71) : W71 := (tr71 pp107 ff107 x).W
noncomputable def s71 : FSpec := ⟨P71, R71, pp71, ff71⟩
def E71 (p107 : X107 → List Prop) (f107 : X107 → W107) : Env := fun f => get1 [(107, ⟨P107, R107, p107, f107⟩)] f
set_option maxRecDepth 100000 in
theorem e71 (p107 : X107 → List Prop) (f107 : X107 → W107) (x : X71) (Q : RsT R71 → OsT P71 → Prop) : evFun TT (E71 p107 f107) Try.f71.ntmps (fun _ => none) (bodyOf Try.f71) Try.f71.results.toList P71 R71 x Q = (tr71 p107 f107 x).V (fun w => Q w.1 w.2) := by kernel_rfl
set_option maxRecDepth 100000 in
theorem ok71 : EnvOK Try.prog (E71 pp107 ff107) := envOK_of (by
  intro p hp
  simp only [List.mem_cons, List.not_mem_nil, or_false] at hp
  rcases hp with rfl
  · exact snd107)
theorem b71 (x : X71) (h : (tr71 pp107 ff107 x).U) : Holds (evFun TT (E71 pp107 ff107) Try.f71.ntmps (fun _ => none) (bodyOf Try.f71) Try.f71.results.toList P71 R71 x (fun r o => (r, o) = (tr71 pp107 ff107 x).W)) := by
  constructor; rw [e71]; exact VT.sound _ h rfl
set_option maxRecDepth 100000 in
theorem snd71 : Sound Try.prog 71 s71 := sound_h (fs := s71) tt_ok mixed ok71 Try.func71 rfl (by kernel_rfl) (ann := fun _ _ => none) fun x h => b71 x (h _ (List.mem_singleton.2 rfl))
end Go.Proofs.Ytmlolnaannoifaa

/- A function of the program as a plain function. Written by wip/gen/gen.py. -/
namespace Go.Proofs.Ytmlolnaannoifaa

/- 72 loop.example/g01193/impl.ValidShape$1 -/
abbrev P72 : List PK := [.val (.int .i64)]
abbrev R72 : List RK := [.one .bool]
abbrev X72 : Type := Int × Unit
abbrev W72 : Type := (Bool × Unit) × Unit
noncomputable def tr72 (x : X72) : VT W72 :=
  let t4 := !decide (x.1 = (1 : Int))
  .ret ((t4, ()), (()))
noncomputable def pp72 (x : X72) : List Prop := [(tr72 x).U]
noncomputable def ff72 (x : X72) : W72 := (tr72 x).W
noncomputable def s72 : FSpec := ⟨P72, R72, pp72, ff72⟩
def E72 : Env := fun f => get1 [] f
set_option maxRecDepth 100000 in
theorem e72 (x : X72) (Q : RsT R72 → OsT P72 → Prop) : evFun TT (E72) Try.f72.ntmps (fun _ => none) (bodyOf Try.f72) Try.f72.results.toList P72 R72 x Q = (tr72 x).V (fun w => Q w.1 w.2) := by kernel_rfl
set_option maxRecDepth 100000 in
theorem ok72 : EnvOK Try.prog E72 := envOK_of (by intro p hp; simp at hp)
theorem b72 (x : X72) (h : (tr72 x).U) : Holds (evFun TT (E72) Try.f72.ntmps (fun _ => none) (bodyOf Try.f72) Try.f72.results.toList P72 R72 x (fun r o => (r, o) = (tr72 x).W)) := by
  constructor; rw [e72]; exact VT.sound _ h rfl
set_option maxRecDepth 100000 in
theorem snd72 : Sound Try.prog 72 s72 := sound_h (fs := s72) tt_ok mixed ok72 Try.func72 rfl (by kernel_rfl) (ann := fun _ _ => none) fun x h => b72 x (h _ (List.mem_singleton.2 rfl))
end Go.Proofs.Ytmlolnaannoifaa

/- A function of the program as a plain function. Written by wip/gen/gen.py. -/
namespace Go.Proofs.Ytmlolnaannoifaa

/- 36 loop.example/g01193/impl.ValidShape -/
abbrev P36 : List PK := [.st (.pair (.sl (.pair (.int .i64) (.pair (.int .i64) (.pair (.int .i64) (.pair (.sl (.flt .f32)) .unit))))) .unit)]
abbrev R36 : List RK := [.one .bool]
abbrev X36 : Type := ((List (Int × Int × Int × List Nat × Unit)) × Unit) × Unit
abbrev W36 : Type := (Bool × Unit) × Unit
abbrev K36_r5 : Type := Int × Int × Nat × List Int × Unit
abbrev K36_r11 : Type := Int × Int × Int × (Int × Int × Int × List Nat × Unit) × Bool × Bool × List Int × Int × Int × Nat × List Int × Unit
noncomputable def lp36_1 (p43 : X43 → List Prop) (f43 : X43 → W43) (p68 : X68 → List Prop) (f68 : X68 → W68) (p69 : X69 → List Prop) (f69 : X69 → W69) (p70 : X70 → List Prop) (f70 : X70 → W70) (p71 : X71 → List Prop) (f71 : X71 → W71) (p72 : X72 → List Prop) (f72 : X72 → W72) (x : X36) (k : K36_r11) : VT (K36_r11 ⊕ (K36_r5 ⊕ W36)) :=
  let t47 := decide (k.2.2.2.2.2.2.2.2.1 < k.2.2.2.2.2.2.2.1)
  .ite t47 (
    .step (0 ≤ k.2.2.2.2.2.2.2.2.1) (
    .step (k.2.2.2.2.2.2.2.2.1 < k.2.2.2.2.2.2.1.length) (
    let t48 := k.2.2.2.2.2.2.1.getD k.2.2.2.2.2.2.2.2.1.toNat (0 : Int)
    let t52 := IntKind.wrap .i64 (k.1 - (1 : Int))
    .pre (p43 (t48, (0 : Int), t52, ())) (
    let t53 := f43 (t48, (0 : Int), t52, ())
    let t54 := !t53.1.1
    .ite t54 (
      .exit (
      .exit (
      .ret ((false, ()), (()))))
    ) (
      .step (0 ≤ t48) (
      .step (t48 < (k.2.2.2.2.2.2.2.2.2.1 : Nat)) (
      .step (t48.toNat < k.2.2.2.2.2.2.2.2.2.1) (
      let t59 := IntKind.wrap .i64 ((k.2.2.2.2.2.2.2.2.2.2.1.getD t48.toNat (0 : Int)) + (1 : Int))
      .step (0 ≤ t48) (
      .step (t48 < (k.2.2.2.2.2.2.2.2.2.1 : Nat)) (
      .step (t48.toNat < k.2.2.2.2.2.2.2.2.2.1) (
      let t61 := IntKind.wrap .i64 (k.2.2.2.2.2.2.2.2.1 + (1 : Int))
      .next (k.1, k.2.1, k.2.2.1, k.2.2.2.1, k.2.2.2.2.1, k.2.2.2.2.2.1, k.2.2.2.2.2.2.1, k.2.2.2.2.2.2.2.1, t61, k.2.2.2.2.2.2.2.2.2.1, k.2.2.2.2.2.2.2.2.2.2.1.set t48.toNat t59, ()) (fun y q => True ∧ True ∧ (k.1 = y.1) ∧ (k.2.1 = y.2.1) ∧ (k.2.2.1 = y.2.2.1) ∧ (k.2.2.2.1 = y.2.2.2.1) ∧ (k.2.2.2.2.1 = y.2.2.2.2.1) ∧ (k.2.2.2.2.2.1 = y.2.2.2.2.2.1) ∧ (k.2.2.2.2.2.2.1 = y.2.2.2.2.2.2.1) ∧ (k.2.2.2.2.2.2.2.1 = y.2.2.2.2.2.2.2.1) ∧ (t61 = y.2.2.2.2.2.2.2.2.1) ∧ ((x.1.1 = x.1.1) ∧ True) ∧ (k.2.2.2.2.2.2.2.2.2.1 = y.2.2.2.2.2.2.2.2.2.1 ∧ k.2.2.2.2.2.2.2.2.2.2.1.set t48.toNat t59 = y.2.2.2.2.2.2.2.2.2.2.1) ∧ q) (fun _ h => ⟨trivial, trivial, rfl, rfl, rfl, rfl, rfl, rfl, rfl, rfl, rfl, ⟨rfl, trivial⟩, ⟨rfl, rfl⟩, h⟩)))))))
    ))))
  ) (
    .exit (
    let t62 := IntKind.wrap .i64 (k.2.2.1 + (1 : Int))
    .next (k.2.1, t62, k.2.2.2.2.2.2.2.2.2.1, k.2.2.2.2.2.2.2.2.2.2.1, ()) (fun y q => True ∧ True ∧ (k.2.1 = y.1) ∧ (t62 = y.2.1) ∧ ((x.1.1 = x.1.1) ∧ True) ∧ (k.2.2.2.2.2.2.2.2.2.1 = y.2.2.1 ∧ k.2.2.2.2.2.2.2.2.2.2.1 = y.2.2.2.1) ∧ q) (fun _ h => ⟨trivial, trivial, rfl, rfl, ⟨rfl, trivial⟩, ⟨rfl, rfl⟩, h⟩))
  )
noncomputable def lp36_2 (p43 : X43 → List Prop) (f43 : X43 → W43) (p68 : X68 → List Prop) (f68 : X68 → W68) (p69 : X69 → List Prop) (f69 : X69 → W69) (p70 : X70 → List Prop) (f70 : X70 → W70) (p71 : X71 → List Prop) (f71 : X71 → W71) (p72 : X72 → List Prop) (f72 : X72 → W72) (x : X36) (k : K36_r5) : VT (K36_r5 ⊕ W36) :=
  let t22 := decide (k.2.1 < k.1)
  .ite t22 (
    .step (0 ≤ k.2.1) (
    .step (k.2.1 < x.1.1.length) (
    let t27 := x.1.1.getD k.2.1.toNat ((0, 0, 0, [], ()) : (Int × Int × Int × List Nat × Unit))
    .pre (p68 (t27.1, t27.2.2.2.1, ())) (
    let t36 := f68 (t27.1, t27.2.2.2.1, ())
    let t37 := !t36.1.1
    .ite t37 (
      .exit (
      .ret ((false, ()), (())))
    ) (
      .pre (p69 (t27, ())) (
      let t40 := f69 (t27, ())
      let t41 := !t40.1.1
      .ite t41 (
        .exit (
        .ret ((false, ()), (())))
      ) (
        .pre (p70 (t27, ())) (
        let t44 := f70 (t27, ())
        let t45 := (t44.1.1.length : Int)
        .loop (k.2.1, k.1, k.2.1, t27, t40.1.1, t41, t44.1.1, t45, (0 : Int), k.2.2.1, k.2.2.2.1, ()) (fun y q => True ∧ True ∧ (k.2.1 = y.1) ∧ (k.1 = y.2.1) ∧ (k.2.1 = y.2.2.1) ∧ (t27 = y.2.2.2.1) ∧ (t40.1.1 = y.2.2.2.2.1) ∧ (t41 = y.2.2.2.2.2.1) ∧ (t44.1.1 = y.2.2.2.2.2.2.1) ∧ (t45 = y.2.2.2.2.2.2.2.1) ∧ ((0 : Int) = y.2.2.2.2.2.2.2.2.1) ∧ ((x.1.1 = x.1.1) ∧ True) ∧ (k.2.2.1 = y.2.2.2.2.2.2.2.2.2.1 ∧ k.2.2.2.1 = y.2.2.2.2.2.2.2.2.2.2.1) ∧ q) (fun _ h => ⟨trivial, trivial, rfl, rfl, rfl, rfl, rfl, rfl, rfl, rfl, rfl, ⟨rfl, trivial⟩, ⟨rfl, rfl⟩, h⟩) (Sum.inr ((false, ()), (()))) (lp36_1 p43 f43 p68 f68 p69 f69 p70 f70 p71 f71 p72 f72 x))
      ))
    ))))
  ) (
    .exit (
    let t64 := ((k.2.2.1 : Nat) : Int)
    let t65 := IntKind.wrap .i64 (t64 - (1 : Int))
    .step (0 ≤ t65) (
    .step (t65 < (k.2.2.1 : Nat)) (
    .step (t65.toNat < k.2.2.1) (
    let t70 := decide ((k.2.2.2.1.getD t65.toNat (0 : Int)) = (0 : Int))
    .ite t70 (
      .step (0 ≤ (0 : Int)) (
      .step ((0 : Int) ≤ t65) (
      .step (t65 ≤ (k.2.2.1 : Nat)) (
      .step (∀ x : Int, ∀ p ∈ p72 (x, ()), p) (
      .pre (p71 (((k.2.2.2.1.drop ((0 : Int).toNat)).take (t65.toNat - (0 : Int).toNat)), (fun x => (f72 (x, ())).1.1), ())) (
      let t75 := f71 (((k.2.2.2.1.drop ((0 : Int).toNat)).take (t65.toNat - (0 : Int).toNat)), (fun x => (f72 (x, ())).1.1), ())
      let t76 := !t75.1.1
      .ret ((t76, ()), (())))))))
    ) (
      .ret ((false, ()), (()))
    )))))
  )
def an36 (x : X36) : Nat → Option Ann := fun i =>
  bif Nat.beq i 5 then some ⟨K36_r5, fun k => ⟨[(1, .one (.ptr 65568 0)), (3, .one (.msl 65824)), (20, .one (.d (.int .i64) k.1)), (21, .one (.d (.int .i64) k.2.1))], [(65568, .box [(.d (.sl (.pair (.int .i64) (.pair (.int .i64) (.pair (.int .i64) (.pair (.sl (.flt .f32)) .unit))))) x.1.1)]), (65824, .arr (.int .i64) k.2.2.1 k.2.2.2.1)]⟩, []⟩ else
  bif Nat.beq i 11 then some ⟨K36_r11, fun k => ⟨[(1, .one (.ptr 65568 0)), (3, .one (.msl 65824)), (4, .one (.d (.int .i64) k.1)), (20, .one (.d (.int .i64) k.2.1)), (21, .one (.d (.int .i64) k.2.2.1)), (39, .one (.cptr (.pair (.int .i64) (.pair (.int .i64) (.pair (.int .i64) (.pair (.sl (.flt .f32)) .unit)))) k.2.2.2.1)), (40, .one (.d .bool k.2.2.2.2.1)), (41, .one (.d .bool k.2.2.2.2.2.1)), (44, .one (.d (.sl (.int .i64)) k.2.2.2.2.2.2.1)), (45, .one (.d (.int .i64) k.2.2.2.2.2.2.2.1)), (46, .one (.d (.int .i64) k.2.2.2.2.2.2.2.2.1))], [(65568, .box [(.d (.sl (.pair (.int .i64) (.pair (.int .i64) (.pair (.int .i64) (.pair (.sl (.flt .f32)) .unit))))) x.1.1)]), (65824, .arr (.int .i64) k.2.2.2.2.2.2.2.2.2.1 k.2.2.2.2.2.2.2.2.2.2.1)]⟩, []⟩ else
  none
noncomputable def tr36 (p43 : X43 → List Prop) (f43 : X43 → W43) (p68 : X68 → List Prop) (f68 : X68 → W68) (p69 : X69 → List Prop) (f69 : X69 → W69) (p70 : X70 → List Prop) (f70 : X70 → W70) (p71 : X71 → List Prop) (f71 : X71 → W71) (p72 : X72 → List Prop) (f72 : X72 → W72) (x : X36) : VT W36 :=
  let t11 := (x.1.1.length : Int)
  .pre (p43 (t11, (1 : Int), (16 : Int), ())) (
  let t12 := f43 (t11, (1 : Int), (16 : Int), ())
  let t13 := !t12.1.1
  .ite t13 (
    .ret ((false, ()), (()))
  ) (
    let t16 := (x.1.1.length : Int)
    .step (t16 = t16) (
    .step (0 ≤ t16) (
    .step (t16 ≤ 1099511627776) (
    let t20 := (x.1.1.length : Int)
    .loop (t20, (0 : Int), t16.toNat, List.replicate t16.toNat (0 : Int), ()) (fun y q => True ∧ True ∧ (t20 = y.1) ∧ ((0 : Int) = y.2.1) ∧ ((x.1.1 = x.1.1) ∧ True) ∧ (t16.toNat = y.2.2.1 ∧ List.replicate t16.toNat (0 : Int) = y.2.2.2.1) ∧ q) (fun _ h => ⟨trivial, trivial, rfl, rfl, ⟨rfl, trivial⟩, ⟨rfl, rfl⟩, h⟩) ((false, ()), (())) (lp36_2 p43 f43 p68 f68 p69 f69 p70 f70 p71 f71 p72 f72 x))))
  ))
noncomputable def pp36 (x : X36) : List Prop := [(tr36 pp43 ff43 pp68 ff68 pp69 ff69 pp70 ff70 pp71 ff71 pp72 ff72 x).U]
noncomputable def ff36 (x : X36) : W36 := (tr36 pp43 ff43 pp68 ff68 pp69 ff69 pp70 ff70 pp71 ff71 pp72 ff72 x).W
noncomputable def s36 : FSpec := ⟨P36, R36, pp36, ff36⟩
def E36 (p43 : X43 → List Prop) (f43 : X43 → W43) (p68 : X68 → List Prop) (f68 : X68 → W68) (p69 : X69 → List Prop) (f69 : X69 → W69) (p70 : X70 → List Prop) (f70 : X70 → W70) (p71 : X71 → List Prop) (f71 : X71 → W71) (p72 : X72 → List Prop) (f72 : X72 → W72) : Env := fun f => get1 [(43, ⟨P43, R43, p43, f43⟩), (68, ⟨P68, R68, p68, f68⟩), (69, ⟨P69, R69, p69, f69⟩), (70, ⟨P70, R70, p70, f70⟩), (71, ⟨P71, R71, p71, f71⟩), (72, ⟨P72, R72, p72, f72⟩)] f
set_option maxRecDepth 100000 in
theorem e36 (p43 : X43 → List Prop) (f43 : X43 → W43) (p68 : X68 → List Prop) (f68 : X68 → W68) (p69 : X69 → List Prop) (f69 : X69 → W69) (p70 : X70 → List Prop) (f70 : X70 → W70) (p71 : X71 → List Prop) (f71 : X71 → W71) (p72 : X72 → List Prop) (f72 : X72 → W72) (x : X36) (Q : RsT R36 → OsT P36 → Prop) : evFun TT (E36 p43 f43 p68 f68 p69 f69 p70 f70 p71 f71 p72 f72) Try.f36.ntmps (an36 x) (bodyOf Try.f36) Try.f36.results.toList P36 R36 x Q = (tr36 p43 f43 p68 f68 p69 f69 p70 f70 p71 f71 p72 f72 x).V (fun w => Q w.1 w.2) := by kernel_rfl
set_option maxRecDepth 100000 in
theorem ok36 : EnvOK Try.prog (E36 pp43 ff43 pp68 ff68 pp69 ff69 pp70 ff70 pp71 ff71 pp72 ff72) := envOK_of (by
  intro p hp
  simp only [List.mem_cons, List.not_mem_nil, or_false] at hp
  rcases hp with rfl | rfl | rfl | rfl | rfl | rfl
  · exact snd43
  · exact snd68
  · exact snd69
  · exact snd70
  · exact snd71
  · exact snd72)
theorem b36 (x : X36) (h : (tr36 pp43 ff43 pp68 ff68 pp69 ff69 pp70 ff70 pp71 ff71 pp72 ff72 x).U) : Holds (evFun TT (E36 pp43 ff43 pp68 ff68 pp69 ff69 pp70 ff70 pp71 ff71 pp72 ff72) Try.f36.ntmps (an36 x) (bodyOf Try.f36) Try.f36.results.toList P36 R36 x (fun r o => (r, o) = (tr36 pp43 ff43 pp68 ff68 pp69 ff69 pp70 ff70 pp71 ff71 pp72 ff72 x).W)) := by
  constructor; rw [e36]; exact VT.sound _ h rfl
set_option maxRecDepth 100000 in
theorem snd36 : Sound Try.prog 36 s36 := sound_h (fs := s36) tt_ok mixed ok36 Try.func36 rfl (by kernel_rfl) (ann := an36) fun x h => b36 x (h _ (List.mem_singleton.2 rfl))
end Go.Proofs.Ytmlolnaannoifaa

/- A function of the program as a plain function. Written by wip/gen/gen.py. -/
namespace Go.Proofs.Ytmlolnaannoifaa

/- 66 loop.example/g01193/impl.finiteVector -/
abbrev P66 : List PK := [.st (.pair (.flt .f32) (.pair (.flt .f32) (.pair (.flt .f32) .unit)))]
abbrev R66 : List RK := [.one .bool]
abbrev X66 : Type := (Nat × Nat × Nat × Unit) × Unit
abbrev W66 : Type := (Bool × Unit) × Unit
noncomputable def tr66 (p104 : X104 → List Prop) (f104 : X104 → W104) (x : X66) : VT W66 :=
  let t9 := [x.1.1, x.1.2.1, x.1.2.2.1]
  .pre (p104 (t9, ())) (
  let t10 := f104 (t9, ())
  .ret ((t10.1.1, ()), (())))
noncomputable def pp66 (x : X66) : List Prop := [(tr66 pp104 ff104 x).U]
noncomputable def ff66 (x : X66) : W66 := (tr66 pp104 ff104 x).W
noncomputable def s66 : FSpec := ⟨P66, R66, pp66, ff66⟩
def E66 (p104 : X104 → List Prop) (f104 : X104 → W104) : Env := fun f => get1 [(104, ⟨P104, R104, p104, f104⟩)] f
set_option maxRecDepth 100000 in
theorem e66 (p104 : X104 → List Prop) (f104 : X104 → W104) (x : X66) (Q : RsT R66 → OsT P66 → Prop) : evFun TT (E66 p104 f104) Try.f66.ntmps (fun _ => none) (bodyOf Try.f66) Try.f66.results.toList P66 R66 x Q = (tr66 p104 f104 x).V (fun w => Q w.1 w.2) := by kernel_rfl
set_option maxRecDepth 100000 in
theorem ok66 : EnvOK Try.prog (E66 pp104 ff104) := envOK_of (by
  intro p hp
  simp only [List.mem_cons, List.not_mem_nil, or_false] at hp
  rcases hp with rfl
  · exact snd104)
theorem b66 (x : X66) (h : (tr66 pp104 ff104 x).U) : Holds (evFun TT (E66 pp104 ff104) Try.f66.ntmps (fun _ => none) (bodyOf Try.f66) Try.f66.results.toList P66 R66 x (fun r o => (r, o) = (tr66 pp104 ff104 x).W)) := by
  constructor; rw [e66]; exact VT.sound _ h rfl
set_option maxRecDepth 100000 in
theorem snd66 : Sound Try.prog 66 s66 := sound_h (fs := s66) tt_ok mixed ok66 Try.func66 rfl (by kernel_rfl) (ann := fun _ _ => none) fun x h => b66 x (h _ (List.mem_singleton.2 rfl))
end Go.Proofs.Ytmlolnaannoifaa

/- A function of the program as a plain function. Written by wip/gen/gen.py. -/
namespace Go.Proofs.Ytmlolnaannoifaa

/- 67 loop.example/g01193/impl.IsName -/
abbrev P67 : List PK := [.val .str]
abbrev R67 : List RK := [.one .bool]
abbrev X67 : Type := ByteArray × Unit
abbrev W67 : Type := (Bool × Unit) × Unit
abbrev K67_r2 : Type := Int × Int × Unit
noncomputable def lp67_1 (x : X67) (k : K67_r2) : VT (K67_r2 ⊕ W67) :=
  let t7 := decide (k.2.1 < k.1)
  .ite t7 (
    .step (0 ≤ k.2.1) (
    .step (k.2.1 < x.1.size) (
    let t11 := bt x.1 k.2.1
    let t12 := decide (t11 < (97 : Int))
    .ite t12 (
      .exit (
      .ret ((false, ()), (())))
    ) (
      .step (0 ≤ k.2.1) (
      .step (k.2.1 < x.1.size) (
      let t16 := bt x.1 k.2.1
      let t17 := decide ((122 : Int) < t16)
      .ite t17 (
        .exit (
        .ret ((false, ()), (())))
      ) (
        let t19 := IntKind.wrap .i64 (k.2.1 + (1 : Int))
        .next (k.1, t19, ()) (fun y q => (x.1 = x.1) ∧ (k.1 = y.1) ∧ (t19 = y.2.1) ∧ q) (fun _ h => ⟨rfl, rfl, rfl, h⟩)
      )))
    )))
  ) (
    .exit (
    let t21 := (x.1.size : Int)
    let t22 := decide ((1 : Int) ≤ t21)
    .ite t22 (
      let t25 := (x.1.size : Int)
      let t26 := decide (t25 ≤ (8 : Int))
      .ret ((t26, ()), (()))
    ) (
      .ret ((false, ()), (()))
    ))
  )
def an67 (x : X67) : Nat → Option Ann := fun i =>
  bif Nat.beq i 2 then some ⟨K67_r2, fun k => ⟨[(0, .one (.d .str x.1)), (5, .one (.d (.int .i64) k.1)), (6, .one (.d (.int .i64) k.2.1))], []⟩, []⟩ else
  none
noncomputable def tr67 (x : X67) : VT W67 :=
  let t5 := (x.1.size : Int)
  .loop (t5, (0 : Int), ()) (fun y q => (x.1 = x.1) ∧ (t5 = y.1) ∧ ((0 : Int) = y.2.1) ∧ q) (fun _ h => ⟨rfl, rfl, rfl, h⟩) ((false, ()), (())) (lp67_1 x)
noncomputable def pp67 (x : X67) : List Prop := [(tr67 x).U]
noncomputable def ff67 (x : X67) : W67 := (tr67 x).W
noncomputable def s67 : FSpec := ⟨P67, R67, pp67, ff67⟩
def E67 : Env := fun f => get1 [] f
set_option maxRecDepth 100000 in
theorem e67 (x : X67) (Q : RsT R67 → OsT P67 → Prop) : evFun TT (E67) Try.f67.ntmps (an67 x) (bodyOf Try.f67) Try.f67.results.toList P67 R67 x Q = (tr67 x).V (fun w => Q w.1 w.2) := by kernel_rfl
set_option maxRecDepth 100000 in
theorem ok67 : EnvOK Try.prog E67 := envOK_of (by intro p hp; simp at hp)
theorem b67 (x : X67) (h : (tr67 x).U) : Holds (evFun TT (E67) Try.f67.ntmps (an67 x) (bodyOf Try.f67) Try.f67.results.toList P67 R67 x (fun r o => (r, o) = (tr67 x).W)) := by
  constructor; rw [e67]; exact VT.sound _ h rfl
set_option maxRecDepth 100000 in
theorem snd67 : Sound Try.prog 67 s67 := sound_h (fs := s67) tt_ok mixed ok67 Try.func67 rfl (by kernel_rfl) (ann := an67) fun x h => b67 x (h _ (List.mem_singleton.2 rfl))
end Go.Proofs.Ytmlolnaannoifaa

/- A function of the program as a plain function. Written by wip/gen/gen.py. -/
namespace Go.Proofs.Ytmlolnaannoifaa

/- 35 (*loop.example/g01193/impl.Thing).ok -/
abbrev P35 : List PK := [.ro (.pair .str (.pair (.sl (.pair (.int .i64) (.pair (.int .i64) (.pair (.int .i64) (.pair (.sl (.flt .f32)) .unit))))) (.pair (.sl (.pair (.int .i64) (.pair (.flt .f32) (.pair (.flt .f32) (.pair (.flt .f32) .unit))))) .unit)))]
abbrev R35 : List RK := [.one .bool]
abbrev X35 : Type := (ByteArray × (List (Int × Int × Int × List Nat × Unit)) × (List (Int × Nat × Nat × Nat × Unit)) × Unit) × Unit
abbrev W35 : Type := (Bool × Unit) × Unit
abbrev K35_r2 : Type := Int × Int × Unit
noncomputable def lp35_1 (p36 : X36 → List Prop) (f36 : X36 → W36) (p43 : X43 → List Prop) (f43 : X43 → W43) (p66 : X66 → List Prop) (f66 : X66 → W66) (p67 : X67 → List Prop) (f67 : X67 → W67) (x : X35) (k : K35_r2) : VT (K35_r2 ⊕ W35) :=
  let t11 := decide (k.2.1 < k.1)
  .ite t11 (
    .step (0 ≤ k.2.1) (
    .step (k.2.1 < x.1.2.2.1.length) (
    let t13 := x.1.2.2.1.getD k.2.1.toNat ((0, 0, 0, 0, ()) : (Int × Nat × Nat × Nat × Unit))
    .pre (p43 (t13.1, (0 : Int), (10000 : Int), ())) (
    let t17 := f43 (t13.1, (0 : Int), (10000 : Int), ())
    let t18 := !t17.1.1
    .ite t18 (
      .exit (
      .ret ((false, ()), (())))
    ) (
      .pre (p66 ((t13.2.1, t13.2.2.1, t13.2.2.2.1, ()), ())) (
      let t22 := f66 ((t13.2.1, t13.2.2.1, t13.2.2.2.1, ()), ())
      let t23 := !t22.1.1
      .ite t23 (
        .exit (
        .ret ((false, ()), (())))
      ) (
        let t27 := decide ((0 : Int) < k.2.1)
        .ite t27 (
          let t34 := IntKind.wrap .i64 (k.2.1 - (1 : Int))
          .step (0 ≤ t34) (
          .step (t34 < x.1.2.2.1.length) (
          let t35 := x.1.2.2.1.getD t34.toNat ((0, 0, 0, 0, ()) : (Int × Nat × Nat × Nat × Unit))
          let t40 := decide (t13.1 ≤ t35.1)
          .ite t40 (
            .exit (
            .ret ((false, ()), (())))
          ) (
            let t43 := IntKind.wrap .i64 (k.2.1 + (1 : Int))
            .next (k.1, t43, ()) (fun y q => (x.1 = x.1) ∧ (x.1.2.2.1 = x.1.2.2.1) ∧ (k.1 = y.1) ∧ (t43 = y.2.1) ∧ q) (fun _ h => ⟨rfl, rfl, rfl, rfl, h⟩)
          )))
        ) (
          let t43_1 := IntKind.wrap .i64 (k.2.1 + (1 : Int))
          .next (k.1, t43_1, ()) (fun y q => (x.1 = x.1) ∧ (x.1.2.2.1 = x.1.2.2.1) ∧ (k.1 = y.1) ∧ (t43_1 = y.2.1) ∧ q) (fun _ h => ⟨rfl, rfl, rfl, rfl, h⟩)
        )
      ))
    ))))
  ) (
    .exit (
    .pre (p67 (x.1.1, ())) (
    let t48 := f67 (x.1.1, ())
    .ite t48.1.1 (
      .pre (p36 ((x.1.2.1, ()), ())) (
      let t54 := f36 ((x.1.2.1, ()), ())
      .ite t54.1.1 (
        let t61 := (x.1.2.2.1.length : Int)
        .pre (p43 (t61, (1 : Int), (8 : Int), ())) (
        let t62 := f43 (t61, (1 : Int), (8 : Int), ())
        .ret ((t62.1.1, ()), (())))
      ) (
        .ret ((false, ()), (()))
      ))
    ) (
      .ret ((false, ()), (()))
    )))
  )
def an35 (x : X35) : Nat → Option Ann := fun i =>
  bif Nat.beq i 2 then some ⟨K35_r2, fun k => ⟨[(0, .one (.cptr (.pair .str (.pair (.sl (.pair (.int .i64) (.pair (.int .i64) (.pair (.int .i64) (.pair (.sl (.flt .f32)) .unit))))) (.pair (.sl (.pair (.int .i64) (.pair (.flt .f32) (.pair (.flt .f32) (.pair (.flt .f32) .unit))))) .unit))) x.1)), (8, .one (.d (.sl (.pair (.int .i64) (.pair (.flt .f32) (.pair (.flt .f32) (.pair (.flt .f32) .unit))))) x.1.2.2.1)), (9, .one (.d (.int .i64) k.1)), (10, .one (.d (.int .i64) k.2.1))], []⟩, []⟩ else
  none
noncomputable def tr35 (p36 : X36 → List Prop) (f36 : X36 → W36) (p43 : X43 → List Prop) (f43 : X43 → W43) (p66 : X66 → List Prop) (f66 : X66 → W66) (p67 : X67 → List Prop) (f67 : X67 → W67) (x : X35) : VT W35 :=
  let t9 := (x.1.2.2.1.length : Int)
  .loop (t9, (0 : Int), ()) (fun y q => (x.1 = x.1) ∧ (x.1.2.2.1 = x.1.2.2.1) ∧ (t9 = y.1) ∧ ((0 : Int) = y.2.1) ∧ q) (fun _ h => ⟨rfl, rfl, rfl, rfl, h⟩) ((false, ()), (())) (lp35_1 p36 f36 p43 f43 p66 f66 p67 f67 x)
noncomputable def pp35 (x : X35) : List Prop := [(tr35 pp36 ff36 pp43 ff43 pp66 ff66 pp67 ff67 x).U]
noncomputable def ff35 (x : X35) : W35 := (tr35 pp36 ff36 pp43 ff43 pp66 ff66 pp67 ff67 x).W
noncomputable def s35 : FSpec := ⟨P35, R35, pp35, ff35⟩
def E35 (p36 : X36 → List Prop) (f36 : X36 → W36) (p43 : X43 → List Prop) (f43 : X43 → W43) (p66 : X66 → List Prop) (f66 : X66 → W66) (p67 : X67 → List Prop) (f67 : X67 → W67) : Env := fun f => get1 [(36, ⟨P36, R36, p36, f36⟩), (43, ⟨P43, R43, p43, f43⟩), (66, ⟨P66, R66, p66, f66⟩), (67, ⟨P67, R67, p67, f67⟩)] f
set_option maxRecDepth 100000 in
theorem e35 (p36 : X36 → List Prop) (f36 : X36 → W36) (p43 : X43 → List Prop) (f43 : X43 → W43) (p66 : X66 → List Prop) (f66 : X66 → W66) (p67 : X67 → List Prop) (f67 : X67 → W67) (x : X35) (Q : RsT R35 → OsT P35 → Prop) : evFun TT (E35 p36 f36 p43 f43 p66 f66 p67 f67) Try.f35.ntmps (an35 x) (bodyOf Try.f35) Try.f35.results.toList P35 R35 x Q = (tr35 p36 f36 p43 f43 p66 f66 p67 f67 x).V (fun w => Q w.1 w.2) := by kernel_rfl
set_option maxRecDepth 100000 in
theorem ok35 : EnvOK Try.prog (E35 pp36 ff36 pp43 ff43 pp66 ff66 pp67 ff67) := envOK_of (by
  intro p hp
  simp only [List.mem_cons, List.not_mem_nil, or_false] at hp
  rcases hp with rfl | rfl | rfl | rfl
  · exact snd36
  · exact snd43
  · exact snd66
  · exact snd67)
theorem b35 (x : X35) (h : (tr35 pp36 ff36 pp43 ff43 pp66 ff66 pp67 ff67 x).U) : Holds (evFun TT (E35 pp36 ff36 pp43 ff43 pp66 ff66 pp67 ff67) Try.f35.ntmps (an35 x) (bodyOf Try.f35) Try.f35.results.toList P35 R35 x (fun r o => (r, o) = (tr35 pp36 ff36 pp43 ff43 pp66 ff66 pp67 ff67 x).W)) := by
  constructor; rw [e35]; exact VT.sound _ h rfl
set_option maxRecDepth 100000 in
theorem snd35 : Sound Try.prog 35 s35 := sound_h (fs := s35) tt_ok mixed ok35 Try.func35 rfl (by kernel_rfl) (ann := an35) fun x h => b35 x (h _ (List.mem_singleton.2 rfl))
end Go.Proofs.Ytmlolnaannoifaa

/- A function of the program as a plain function. Written by wip/gen/gen.py. -/
namespace Go.Proofs.Ytmlolnaannoifaa

/- 11 loop.example/g01193/impl.ValidScene -/
abbrev P11 : List PK := [.st (.pair (.sl (.pair .str (.pair (.sl (.pair (.int .i64) (.pair (.int .i64) (.pair (.int .i64) (.pair (.sl (.flt .f32)) .unit))))) (.pair (.sl (.pair (.int .i64) (.pair (.flt .f32) (.pair (.flt .f32) (.pair (.flt .f32) .unit))))) .unit)))) .unit)]
abbrev R11 : List RK := [.one .bool]
abbrev X11 : Type := ((List (ByteArray × (List (Int × Int × Int × List Nat × Unit)) × (List (Int × Nat × Nat × Nat × Unit)) × Unit)) × Unit) × Unit
abbrev W11 : Type := (Bool × Unit) × Unit
abbrev K11_r2 : Type := Int × Int × Unit
noncomputable def lp11_1 (p35 : X35 → List Prop) (f35 : X35 → W35) (x : X11) (k : K11_r2) : VT (K11_r2 ⊕ W11) :=
  let t8 := decide (k.2.1 < k.1)
  .ite t8 (
    .step (0 ≤ k.2.1) (
    .step (k.2.1 < x.1.1.length) (
    let t13 := x.1.1.getD k.2.1.toNat ((ByteArray.empty, [], [], ()) : (ByteArray × (List (Int × Int × Int × List Nat × Unit)) × (List (Int × Nat × Nat × Nat × Unit)) × Unit))
    .pre (p35 (t13, ())) (
    let t14 := f35 (t13, ())
    let t15 := !t14.1.1
    .ite t15 (
      .exit (
      .ret ((false, ()), (())))
    ) (
      let t18 := decide ((0 : Int) < k.2.1)
      .ite t18 (
        let t23 := IntKind.wrap .i64 (k.2.1 - (1 : Int))
        .step (0 ≤ t23) (
        .step (t23 < x.1.1.length) (
        let t24 := x.1.1.getD t23.toNat ((ByteArray.empty, [], [], ()) : (ByteArray × (List (Int × Int × Int × List Nat × Unit)) × (List (Int × Nat × Nat × Nat × Unit)) × Unit))
        .step (0 ≤ k.2.1) (
        .step (k.2.1 < x.1.1.length) (
        let t30 := x.1.1.getD k.2.1.toNat ((ByteArray.empty, [], [], ()) : (ByteArray × (List (Int × Int × Int × List Nat × Unit)) × (List (Int × Nat × Nat × Nat × Unit)) × Unit))
        let t33 := !slt' t24.1 t30.1
        .ite t33 (
          .exit (
          .ret ((false, ()), (())))
        ) (
          let t36 := IntKind.wrap .i64 (k.2.1 + (1 : Int))
          .next (k.1, t36, ()) (fun y q => True ∧ (k.1 = y.1) ∧ (t36 = y.2.1) ∧ ((x.1.1 = x.1.1) ∧ True) ∧ q) (fun _ h => ⟨trivial, rfl, rfl, ⟨rfl, trivial⟩, h⟩)
        )))))
      ) (
        let t36_1 := IntKind.wrap .i64 (k.2.1 + (1 : Int))
        .next (k.1, t36_1, ()) (fun y q => True ∧ (k.1 = y.1) ∧ (t36_1 = y.2.1) ∧ ((x.1.1 = x.1.1) ∧ True) ∧ q) (fun _ h => ⟨trivial, rfl, rfl, ⟨rfl, trivial⟩, h⟩)
      )
    ))))
  ) (
    .exit (
    let t39 := (x.1.1.length : Int)
    let t40 := decide (t39 ≤ (8 : Int))
    .ret ((t40, ()), (())))
  )
def an11 (x : X11) : Nat → Option Ann := fun i =>
  bif Nat.beq i 2 then some ⟨K11_r2, fun k => ⟨[(1, .one (.ptr 65568 0)), (6, .one (.d (.int .i64) k.1)), (7, .one (.d (.int .i64) k.2.1))], [(65568, .box [(.d (.sl (.pair .str (.pair (.sl (.pair (.int .i64) (.pair (.int .i64) (.pair (.int .i64) (.pair (.sl (.flt .f32)) .unit))))) (.pair (.sl (.pair (.int .i64) (.pair (.flt .f32) (.pair (.flt .f32) (.pair (.flt .f32) .unit))))) .unit)))) x.1.1)])]⟩, []⟩ else
  none
noncomputable def tr11 (p35 : X35 → List Prop) (f35 : X35 → W35) (x : X11) : VT W11 :=
  let t6 := (x.1.1.length : Int)
  .loop (t6, (0 : Int), ()) (fun y q => True ∧ (t6 = y.1) ∧ ((0 : Int) = y.2.1) ∧ ((x.1.1 = x.1.1) ∧ True) ∧ q) (fun _ h => ⟨trivial, rfl, rfl, ⟨rfl, trivial⟩, h⟩) ((false, ()), (())) (lp11_1 p35 f35 x)
noncomputable def pp11 (x : X11) : List Prop := [(tr11 pp35 ff35 x).U]
noncomputable def ff11 (x : X11) : W11 := (tr11 pp35 ff35 x).W
noncomputable def s11 : FSpec := ⟨P11, R11, pp11, ff11⟩
def E11 (p35 : X35 → List Prop) (f35 : X35 → W35) : Env := fun f => get1 [(35, ⟨P35, R35, p35, f35⟩)] f
set_option maxRecDepth 100000 in
theorem e11 (p35 : X35 → List Prop) (f35 : X35 → W35) (x : X11) (Q : RsT R11 → OsT P11 → Prop) : evFun TT (E11 p35 f35) Try.f11.ntmps (an11 x) (bodyOf Try.f11) Try.f11.results.toList P11 R11 x Q = (tr11 p35 f35 x).V (fun w => Q w.1 w.2) := by kernel_rfl
set_option maxRecDepth 100000 in
theorem ok11 : EnvOK Try.prog (E11 pp35 ff35) := envOK_of (by
  intro p hp
  simp only [List.mem_cons, List.not_mem_nil, or_false] at hp
  rcases hp with rfl
  · exact snd35)
theorem b11 (x : X11) (h : (tr11 pp35 ff35 x).U) : Holds (evFun TT (E11 pp35 ff35) Try.f11.ntmps (an11 x) (bodyOf Try.f11) Try.f11.results.toList P11 R11 x (fun r o => (r, o) = (tr11 pp35 ff35 x).W)) := by
  constructor; rw [e11]; exact VT.sound _ h rfl
set_option maxRecDepth 100000 in
theorem snd11 : Sound Try.prog 11 s11 := sound_h (fs := s11) tt_ok mixed ok11 Try.func11 rfl (by kernel_rfl) (ann := an11) fun x h => b11 x (h _ (List.mem_singleton.2 rfl))
end Go.Proofs.Ytmlolnaannoifaa

/- A function of the program as a plain function. Written by wip/gen/gen.py. -/
namespace Go.Proofs.Ytmlolnaannoifaa

/- 30 loop.example/g01193/impl.timeOk -/
abbrev P30 : List PK := [.val (.int .i64)]
abbrev R30 : List RK := [.one .bool]
abbrev X30 : Type := Int × Unit
abbrev W30 : Type := (Bool × Unit) × Unit
noncomputable def tr30 (p43 : X43 → List Prop) (f43 : X43 → W43) (x : X30) : VT W30 :=
  .pre (p43 (x.1, (0 : Int), (10000 : Int), ())) (
  let t4 := f43 (x.1, (0 : Int), (10000 : Int), ())
  .ret ((t4.1.1, ()), (())))
noncomputable def pp30 (x : X30) : List Prop := [(tr30 pp43 ff43 x).U]
noncomputable def ff30 (x : X30) : W30 := (tr30 pp43 ff43 x).W
noncomputable def s30 : FSpec := ⟨P30, R30, pp30, ff30⟩
def E30 (p43 : X43 → List Prop) (f43 : X43 → W43) : Env := fun f => get1 [(43, ⟨P43, R43, p43, f43⟩)] f
set_option maxRecDepth 100000 in
theorem e30 (p43 : X43 → List Prop) (f43 : X43 → W43) (x : X30) (Q : RsT R30 → OsT P30 → Prop) : evFun TT (E30 p43 f43) Try.f30.ntmps (fun _ => none) (bodyOf Try.f30) Try.f30.results.toList P30 R30 x Q = (tr30 p43 f43 x).V (fun w => Q w.1 w.2) := by kernel_rfl
set_option maxRecDepth 100000 in
theorem ok30 : EnvOK Try.prog (E30 pp43 ff43) := envOK_of (by
  intro p hp
  simp only [List.mem_cons, List.not_mem_nil, or_false] at hp
  rcases hp with rfl
  · exact snd43)
theorem b30 (x : X30) (h : (tr30 pp43 ff43 x).U) : Holds (evFun TT (E30 pp43 ff43) Try.f30.ntmps (fun _ => none) (bodyOf Try.f30) Try.f30.results.toList P30 R30 x (fun r o => (r, o) = (tr30 pp43 ff43 x).W)) := by
  constructor; rw [e30]; exact VT.sound _ h rfl
set_option maxRecDepth 100000 in
theorem snd30 : Sound Try.prog 30 s30 := sound_h (fs := s30) tt_ok mixed ok30 Try.func30 rfl (by kernel_rfl) (ann := fun _ _ => none) fun x h => b30 x (h _ (List.mem_singleton.2 rfl))
end Go.Proofs.Ytmlolnaannoifaa

/- A function of the program as a plain function. Written by wip/gen/gen.py. -/
namespace Go.Proofs.Ytmlolnaannoifaa

/- 31 loop.example/g01193/impl.coordinates -/
abbrev P31 : List PK := [.st (.pair (.flt .f32) (.pair (.flt .f32) (.pair (.flt .f32) .unit)))]
abbrev R31 : List RK := [.st (.pair (.flt .f32) (.pair (.flt .f32) (.pair (.flt .f32) .unit)))]
abbrev X31 : Type := (Nat × Nat × Nat × Unit) × Unit
abbrev W31 : Type := ((Nat × Nat × Nat × Unit) × Unit) × Unit
noncomputable def tr31 (x : X31) : VT W31 :=
  .ret ((((([x.1.1, x.1.2.1, x.1.2.2.1]).getD 0 (0 : Nat)), (([x.1.1, x.1.2.1, x.1.2.2.1]).getD 1 (0 : Nat)), (([x.1.1, x.1.2.1, x.1.2.2.1]).getD 2 (0 : Nat)), ()), ()), (()))
noncomputable def pp31 (x : X31) : List Prop := [(tr31 x).U]
noncomputable def ff31 (x : X31) : W31 := (tr31 x).W
noncomputable def s31 : FSpec := ⟨P31, R31, pp31, ff31⟩
def E31 : Env := fun f => get1 [] f
set_option maxRecDepth 100000 in
theorem e31 (x : X31) (Q : RsT R31 → OsT P31 → Prop) : evFun TT (E31) Try.f31.ntmps (fun _ => none) (bodyOf Try.f31) Try.f31.results.toList P31 R31 x Q = (tr31 x).V (fun w => Q w.1 w.2) := by kernel_rfl
set_option maxRecDepth 100000 in
theorem ok31 : EnvOK Try.prog E31 := envOK_of (by intro p hp; simp at hp)
theorem b31 (x : X31) (h : (tr31 x).U) : Holds (evFun TT (E31) Try.f31.ntmps (fun _ => none) (bodyOf Try.f31) Try.f31.results.toList P31 R31 x (fun r o => (r, o) = (tr31 x).W)) := by
  constructor; rw [e31]; exact VT.sound _ h rfl
set_option maxRecDepth 100000 in
theorem snd31 : Sound Try.prog 31 s31 := sound_h (fs := s31) tt_ok mixed ok31 Try.func31 rfl (by kernel_rfl) (ann := fun _ _ => none) fun x h => b31 x (h _ (List.mem_singleton.2 rfl))
end Go.Proofs.Ytmlolnaannoifaa

/- A function of the program as a plain function. Written by wip/gen/gen.py. -/
namespace Go.Proofs.Ytmlolnaannoifaa

/- 14 loop.example/g01193/impl.LessVectors -/
abbrev P14 : List PK := [.st (.pair (.flt .f32) (.pair (.flt .f32) (.pair (.flt .f32) .unit))), .st (.pair (.flt .f32) (.pair (.flt .f32) (.pair (.flt .f32) .unit)))]
abbrev R14 : List RK := [.st (.pair (.flt .f32) (.pair (.flt .f32) (.pair (.flt .f32) .unit)))]
abbrev X14 : Type := (Nat × Nat × Nat × Unit) × (Nat × Nat × Nat × Unit) × Unit
abbrev W14 : Type := ((Nat × Nat × Nat × Unit) × Unit) × Unit
noncomputable def tr14 (x : X14) : VT W14 :=
  let t9 := fop .sub .f32 x.1.1 x.2.1.1
  let t14 := fop .sub .f32 x.1.2.1 x.2.1.2.1
  let t19 := fop .sub .f32 x.1.2.2.1 x.2.1.2.2.1
  .ret (((t9, t14, t19, ()), ()), (()))
noncomputable def pp14 (x : X14) : List Prop := [(tr14 x).U]
noncomputable def ff14 (x : X14) : W14 := (tr14 x).W
noncomputable def s14 : FSpec := ⟨P14, R14, pp14, ff14⟩
def E14 : Env := fun f => get1 [] f
set_option maxRecDepth 100000 in
theorem e14 (x : X14) (Q : RsT R14 → OsT P14 → Prop) : evFun TT (E14) Try.f14.ntmps (fun _ => none) (bodyOf Try.f14) Try.f14.results.toList P14 R14 x Q = (tr14 x).V (fun w => Q w.1 w.2) := by kernel_rfl
set_option maxRecDepth 100000 in
theorem ok14 : EnvOK Try.prog E14 := envOK_of (by intro p hp; simp at hp)
theorem b14 (x : X14) (h : (tr14 x).U) : Holds (evFun TT (E14) Try.f14.ntmps (fun _ => none) (bodyOf Try.f14) Try.f14.results.toList P14 R14 x (fun r o => (r, o) = (tr14 x).W)) := by
  constructor; rw [e14]; exact VT.sound _ h rfl
set_option maxRecDepth 100000 in
theorem snd14 : Sound Try.prog 14 s14 := sound_h (fs := s14) tt_ok mixed ok14 Try.func14 rfl (by kernel_rfl) (ann := fun _ _ => none) fun x h => b14 x (h _ (List.mem_singleton.2 rfl))
end Go.Proofs.Ytmlolnaannoifaa

/- A function of the program as a plain function. Written by wip/gen/gen.py. -/
namespace Go.Proofs.Ytmlolnaannoifaa

/- 134 loop.example/g01193/impl.AddVectors -/
abbrev P134 : List PK := [.st (.pair (.flt .f32) (.pair (.flt .f32) (.pair (.flt .f32) .unit))), .st (.pair (.flt .f32) (.pair (.flt .f32) (.pair (.flt .f32) .unit)))]
abbrev R134 : List RK := [.st (.pair (.flt .f32) (.pair (.flt .f32) (.pair (.flt .f32) .unit)))]
abbrev X134 : Type := (Nat × Nat × Nat × Unit) × (Nat × Nat × Nat × Unit) × Unit
abbrev W134 : Type := ((Nat × Nat × Nat × Unit) × Unit) × Unit
noncomputable def tr134 (x : X134) : VT W134 :=
  let t9 := fop .add .f32 x.1.1 x.2.1.1
  let t14 := fop .add .f32 x.1.2.1 x.2.1.2.1
  let t19 := fop .add .f32 x.1.2.2.1 x.2.1.2.2.1
  .ret (((t9, t14, t19, ()), ()), (()))
noncomputable def pp134 (x : X134) : List Prop := [(tr134 x).U]
noncomputable def ff134 (x : X134) : W134 := (tr134 x).W
noncomputable def s134 : FSpec := ⟨P134, R134, pp134, ff134⟩
def E134 : Env := fun f => get1 [] f
set_option maxRecDepth 100000 in
theorem e134 (x : X134) (Q : RsT R134 → OsT P134 → Prop) : evFun TT (E134) Try.f134.ntmps (fun _ => none) (bodyOf Try.f134) Try.f134.results.toList P134 R134 x Q = (tr134 x).V (fun w => Q w.1 w.2) := by kernel_rfl
set_option maxRecDepth 100000 in
theorem ok134 : EnvOK Try.prog E134 := envOK_of (by intro p hp; simp at hp)
theorem b134 (x : X134) (h : (tr134 x).U) : Holds (evFun TT (E134) Try.f134.ntmps (fun _ => none) (bodyOf Try.f134) Try.f134.results.toList P134 R134 x (fun r o => (r, o) = (tr134 x).W)) := by
  constructor; rw [e134]; exact VT.sound _ h rfl
set_option maxRecDepth 100000 in
theorem snd134 : Sound Try.prog 134 s134 := sound_h (fs := s134) tt_ok mixed ok134 Try.func134 rfl (by kernel_rfl) (ann := fun _ _ => none) fun x h => b134 x (h _ (List.mem_singleton.2 rfl))
end Go.Proofs.Ytmlolnaannoifaa

/- A function of the program as a plain function. Written by wip/gen/gen.py. -/
namespace Go.Proofs.Ytmlolnaannoifaa

/- 135 loop.example/g01193/impl.ScaleVector -/
abbrev P135 : List PK := [.st (.pair (.flt .f32) (.pair (.flt .f32) (.pair (.flt .f32) .unit))), .val (.flt .f32)]
abbrev R135 : List RK := [.st (.pair (.flt .f32) (.pair (.flt .f32) (.pair (.flt .f32) .unit)))]
abbrev X135 : Type := (Nat × Nat × Nat × Unit) × Nat × Unit
abbrev W135 : Type := ((Nat × Nat × Nat × Unit) × Unit) × Unit
noncomputable def tr135 (x : X135) : VT W135 :=
  let t8 := fop .mul .f32 x.1.1 x.2.1
  let t12 := fop .mul .f32 x.1.2.1 x.2.1
  let t16 := fop .mul .f32 x.1.2.2.1 x.2.1
  .ret (((t8, t12, t16, ()), ()), (()))
noncomputable def pp135 (x : X135) : List Prop := [(tr135 x).U]
noncomputable def ff135 (x : X135) : W135 := (tr135 x).W
noncomputable def s135 : FSpec := ⟨P135, R135, pp135, ff135⟩
def E135 : Env := fun f => get1 [] f
set_option maxRecDepth 100000 in
theorem e135 (x : X135) (Q : RsT R135 → OsT P135 → Prop) : evFun TT (E135) Try.f135.ntmps (fun _ => none) (bodyOf Try.f135) Try.f135.results.toList P135 R135 x Q = (tr135 x).V (fun w => Q w.1 w.2) := by kernel_rfl
set_option maxRecDepth 100000 in
theorem ok135 : EnvOK Try.prog E135 := envOK_of (by intro p hp; simp at hp)
theorem b135 (x : X135) (h : (tr135 x).U) : Holds (evFun TT (E135) Try.f135.ntmps (fun _ => none) (bodyOf Try.f135) Try.f135.results.toList P135 R135 x (fun r o => (r, o) = (tr135 x).W)) := by
  constructor; rw [e135]; exact VT.sound _ h rfl
set_option maxRecDepth 100000 in
theorem snd135 : Sound Try.prog 135 s135 := sound_h (fs := s135) tt_ok mixed ok135 Try.func135 rfl (by kernel_rfl) (ann := fun _ _ => none) fun x h => b135 x (h _ (List.mem_singleton.2 rfl))
end Go.Proofs.Ytmlolnaannoifaa

/- A function of the program as a plain function. Written by wip/gen/gen.py. -/
namespace Go.Proofs.Ytmlolnaannoifaa

/- 102 loop.example/g01193/impl.BetweenVectors -/
abbrev P102 : List PK := [.st (.pair (.flt .f32) (.pair (.flt .f32) (.pair (.flt .f32) .unit))), .st (.pair (.flt .f32) (.pair (.flt .f32) (.pair (.flt .f32) .unit))), .val (.flt .f32)]
abbrev R102 : List RK := [.st (.pair (.flt .f32) (.pair (.flt .f32) (.pair (.flt .f32) .unit)))]
abbrev X102 : Type := (Nat × Nat × Nat × Unit) × (Nat × Nat × Nat × Unit) × Nat × Unit
abbrev W102 : Type := ((Nat × Nat × Nat × Unit) × Unit) × Unit
noncomputable def tr102 (p14 : X14 → List Prop) (f14 : X14 → W14) (p134 : X134 → List Prop) (f134 : X134 → W134) (p135 : X135 → List Prop) (f135 : X135 → W135) (x : X102) : VT W102 :=
  .pre (p14 ((x.2.1.1, x.2.1.2.1, x.2.1.2.2.1, ()), (x.1.1, x.1.2.1, x.1.2.2.1, ()), ())) (
  let t10 := f14 ((x.2.1.1, x.2.1.2.1, x.2.1.2.2.1, ()), (x.1.1, x.1.2.1, x.1.2.2.1, ()), ())
  .pre (p135 ((t10.1.1.1, t10.1.1.2.1, t10.1.1.2.2.1, ()), x.2.2.1, ())) (
  let t12 := f135 ((t10.1.1.1, t10.1.1.2.1, t10.1.1.2.2.1, ()), x.2.2.1, ())
  .pre (p134 ((x.1.1, x.1.2.1, x.1.2.2.1, ()), (t12.1.1.1, t12.1.1.2.1, t12.1.1.2.2.1, ()), ())) (
  let t13 := f134 ((x.1.1, x.1.2.1, x.1.2.2.1, ()), (t12.1.1.1, t12.1.1.2.1, t12.1.1.2.2.1, ()), ())
  .ret (((t13.1.1.1, t13.1.1.2.1, t13.1.1.2.2.1, ()), ()), (())))))
noncomputable def pp102 (x : X102) : List Prop := [(tr102 pp14 ff14 pp134 ff134 pp135 ff135 x).U]
noncomputable def ff102 (x : X102) : W102 := (tr102 pp14 ff14 pp134 ff134 pp135 ff135 x).W
noncomputable def s102 : FSpec := ⟨P102, R102, pp102, ff102⟩
def E102 (p14 : X14 → List Prop) (f14 : X14 → W14) (p134 : X134 → List Prop) (f134 : X134 → W134) (p135 : X135 → List Prop) (f135 : X135 → W135) : Env := fun f => get1 [(14, ⟨P14, R14, p14, f14⟩), (134, ⟨P134, R134, p134, f134⟩), (135, ⟨P135, R135, p135, f135⟩)] f
set_option maxRecDepth 100000 in
theorem e102 (p14 : X14 → List Prop) (f14 : X14 → W14) (p134 : X134 → List Prop) (f134 : X134 → W134) (p135 : X135 → List Prop) (f135 : X135 → W135) (x : X102) (Q : RsT R102 → OsT P102 → Prop) : evFun TT (E102 p14 f14 p134 f134 p135 f135) Try.f102.ntmps (fun _ => none) (bodyOf Try.f102) Try.f102.results.toList P102 R102 x Q = (tr102 p14 f14 p134 f134 p135 f135 x).V (fun w => Q w.1 w.2) := by kernel_rfl
set_option maxRecDepth 100000 in
theorem ok102 : EnvOK Try.prog (E102 pp14 ff14 pp134 ff134 pp135 ff135) := envOK_of (by
  intro p hp
  simp only [List.mem_cons, List.not_mem_nil, or_false] at hp
  rcases hp with rfl | rfl | rfl
  · exact snd14
  · exact snd134
  · exact snd135)
theorem b102 (x : X102) (h : (tr102 pp14 ff14 pp134 ff134 pp135 ff135 x).U) : Holds (evFun TT (E102 pp14 ff14 pp134 ff134 pp135 ff135) Try.f102.ntmps (fun _ => none) (bodyOf Try.f102) Try.f102.results.toList P102 R102 x (fun r o => (r, o) = (tr102 pp14 ff14 pp134 ff134 pp135 ff135 x).W)) := by
  constructor; rw [e102]; exact VT.sound _ h rfl
set_option maxRecDepth 100000 in
theorem snd102 : Sound Try.prog 102 s102 := sound_h (fs := s102) tt_ok mixed ok102 Try.func102 rfl (by kernel_rfl) (ann := fun _ _ => none) fun x h => b102 x (h _ (List.mem_singleton.2 rfl))
end Go.Proofs.Ytmlolnaannoifaa

/- A function of the program as a plain function. Written by wip/gen/gen.py. -/
namespace Go.Proofs.Ytmlolnaannoifaa

/- 60 loop.example/g01193/impl.between -/
abbrev P60 : List PK := [.st (.pair (.int .i64) (.pair (.flt .f32) (.pair (.flt .f32) (.pair (.flt .f32) .unit)))), .st (.pair (.int .i64) (.pair (.flt .f32) (.pair (.flt .f32) (.pair (.flt .f32) .unit)))), .val (.int .i64)]
abbrev R60 : List RK := [.st (.pair (.flt .f32) (.pair (.flt .f32) (.pair (.flt .f32) .unit)))]
abbrev X60 : Type := (Int × Nat × Nat × Nat × Unit) × (Int × Nat × Nat × Nat × Unit) × Int × Unit
abbrev W60 : Type := ((Nat × Nat × Nat × Unit) × Unit) × Unit
noncomputable def tr60 (p102 : X102 → List Prop) (f102 : X102 → W102) (x : X60) : VT W60 :=
  let t14 := IntKind.wrap .i64 (x.2.2.1 - x.1.1)
  let t15 := FloatKind.nearest .f32 t14
  let t20 := IntKind.wrap .i64 (x.2.1.1 - x.1.1)
  let t21 := FloatKind.nearest .f32 t20
  let t22 := fop .quo .f32 t15 t21
  .pre (p102 ((x.1.2.1, x.1.2.2.1, x.1.2.2.2.1, ()), (x.2.1.2.1, x.2.1.2.2.1, x.2.1.2.2.2.1, ()), t22, ())) (
  let t23 := f102 ((x.1.2.1, x.1.2.2.1, x.1.2.2.2.1, ()), (x.2.1.2.1, x.2.1.2.2.1, x.2.1.2.2.2.1, ()), t22, ())
  .ret (((t23.1.1.1, t23.1.1.2.1, t23.1.1.2.2.1, ()), ()), (())))
noncomputable def pp60 (x : X60) : List Prop := [(tr60 pp102 ff102 x).U]
noncomputable def ff60 (x : X60) : W60 := (tr60 pp102 ff102 x).W
noncomputable def s60 : FSpec := ⟨P60, R60, pp60, ff60⟩
def E60 (p102 : X102 → List Prop) (f102 : X102 → W102) : Env := fun f => get1 [(102, ⟨P102, R102, p102, f102⟩)] f
set_option maxRecDepth 100000 in
theorem e60 (p102 : X102 → List Prop) (f102 : X102 → W102) (x : X60) (Q : RsT R60 → OsT P60 → Prop) : evFun TT (E60 p102 f102) Try.f60.ntmps (fun _ => none) (bodyOf Try.f60) Try.f60.results.toList P60 R60 x Q = (tr60 p102 f102 x).V (fun w => Q w.1 w.2) := by kernel_rfl
set_option maxRecDepth 100000 in
theorem ok60 : EnvOK Try.prog (E60 pp102 ff102) := envOK_of (by
  intro p hp
  simp only [List.mem_cons, List.not_mem_nil, or_false] at hp
  rcases hp with rfl
  · exact snd102)
theorem b60 (x : X60) (h : (tr60 pp102 ff102 x).U) : Holds (evFun TT (E60 pp102 ff102) Try.f60.ntmps (fun _ => none) (bodyOf Try.f60) Try.f60.results.toList P60 R60 x (fun r o => (r, o) = (tr60 pp102 ff102 x).W)) := by
  constructor; rw [e60]; exact VT.sound _ h rfl
set_option maxRecDepth 100000 in
theorem snd60 : Sound Try.prog 60 s60 := sound_h (fs := s60) tt_ok mixed ok60 Try.func60 rfl (by kernel_rfl) (ann := fun _ _ => none) fun x h => b60 x (h _ (List.mem_singleton.2 rfl))
end Go.Proofs.Ytmlolnaannoifaa

/- A function of the program as a plain function. Written by wip/gen/gen.py. -/
namespace Go.Proofs.Ytmlolnaannoifaa

/- 32 loop.example/g01193/impl.placeAt -/
abbrev P32 : List PK := [.st (.pair .str (.pair (.sl (.pair (.int .i64) (.pair (.int .i64) (.pair (.int .i64) (.pair (.sl (.flt .f32)) .unit))))) (.pair (.sl (.pair (.int .i64) (.pair (.flt .f32) (.pair (.flt .f32) (.pair (.flt .f32) .unit))))) .unit))), .val (.int .i64)]
abbrev R32 : List RK := [.st (.pair (.flt .f32) (.pair (.flt .f32) (.pair (.flt .f32) .unit)))]
abbrev X32 : Type := (ByteArray × (List (Int × Int × Int × List Nat × Unit)) × (List (Int × Nat × Nat × Nat × Unit)) × Unit) × Int × Unit
abbrev W32 : Type := ((Nat × Nat × Nat × Unit) × Unit) × Unit
abbrev K32_r4 : Type := Int × Unit
noncomputable def lp32_1 (p60 : X60 → List Prop) (f60 : X60 → W60) (x : X32) (k : K32_r4) : VT (K32_r4 ⊕ W32) :=
  let t22 := (x.1.2.2.1.length : Int)
  let t23 := decide (k.1 < t22)
  .ite t23 (
    .step (0 ≤ k.1) (
    .step (k.1 < x.1.2.2.1.length) (
    let t29 := x.1.2.2.1.getD k.1.toNat ((0, 0, 0, 0, ()) : (Int × Nat × Nat × Nat × Unit))
    let t35 := decide (x.2.1 = t29.1)
    .ite t35 (
      .exit (
      .ret (((t29.2.1, t29.2.2.1, t29.2.2.2.1, ()), ()), (())))
    ) (
      let t42 := decide (x.2.1 < t29.1)
      .ite t42 (
        let t46 := IntKind.wrap .i64 (k.1 - (1 : Int))
        .step (0 ≤ t46) (
        .step (t46 < x.1.2.2.1.length) (
        let t47 := x.1.2.2.1.getD t46.toNat ((0, 0, 0, 0, ()) : (Int × Nat × Nat × Nat × Unit))
        .pre (p60 ((t47.1, t47.2.1, t47.2.2.1, t47.2.2.2.1, ()), (t29.1, t29.2.1, t29.2.2.1, t29.2.2.2.1, ()), x.2.1, ())) (
        let t51 := f60 ((t47.1, t47.2.1, t47.2.2.1, t47.2.2.2.1, ()), (t29.1, t29.2.1, t29.2.2.1, t29.2.2.2.1, ()), x.2.1, ())
        .exit (
        .ret (((t51.1.1.1, t51.1.1.2.1, t51.1.1.2.2.1, ()), ()), (()))))))
      ) (
        let t25 := IntKind.wrap .i64 (k.1 + (1 : Int))
        .next (t25, ()) (fun y q => (x.2.1 = x.2.1) ∧ True ∧ True ∧ (t25 = y.1) ∧ ((x.1.1 = x.1.1) ∧ (x.1.2.1 = x.1.2.1) ∧ (x.1.2.2.1 = x.1.2.2.1) ∧ True) ∧ (((0 : Nat) = (0 : Nat)) ∧ ((0 : Nat) = (0 : Nat)) ∧ ((0 : Nat) = (0 : Nat)) ∧ True) ∧ q) (fun _ h => ⟨rfl, trivial, trivial, rfl, ⟨rfl, rfl, rfl, trivial⟩, ⟨rfl, rfl, rfl, trivial⟩, h⟩)
      )
    )))
  ) (
    .exit (
    let t56 := (x.1.2.2.1.length : Int)
    let t57 := IntKind.wrap .i64 (t56 - (1 : Int))
    .step (0 ≤ t57) (
    .step (t57 < x.1.2.2.1.length) (
    let t58 := x.1.2.2.1.getD t57.toNat ((0, 0, 0, 0, ()) : (Int × Nat × Nat × Nat × Unit))
    .ret (((t58.2.1, t58.2.2.1, t58.2.2.2.1, ()), ()), (())))))
  )
def an32 (x : X32) : Nat → Option Ann := fun i =>
  bif Nat.beq i 4 then some ⟨K32_r4, fun k => ⟨[(1, .one (.d (.int .i64) x.2.1)), (2, .one (.ptr 65584 0)), (4, .one (.ptr 65616 0)), (5, .one (.d (.int .i64) k.1))], [(65584, .box [(.d .str x.1.1), (.d (.sl (.pair (.int .i64) (.pair (.int .i64) (.pair (.int .i64) (.pair (.sl (.flt .f32)) .unit))))) x.1.2.1), (.d (.sl (.pair (.int .i64) (.pair (.flt .f32) (.pair (.flt .f32) (.pair (.flt .f32) .unit))))) x.1.2.2.1)]), (65616, .box [(.d (.flt .f32) (0 : Nat)), (.d (.flt .f32) (0 : Nat)), (.d (.flt .f32) (0 : Nat))])]⟩, []⟩ else
  none
noncomputable def tr32 (p60 : X60 → List Prop) (f60 : X60 → W60) (x : X32) : VT W32 :=
  .step (0 ≤ (0 : Int)) (
  .step ((0 : Int) < x.1.2.2.1.length) (
  let t10 := x.1.2.2.1.getD (0 : Int).toNat ((0, 0, 0, 0, ()) : (Int × Nat × Nat × Nat × Unit))
  let t13 := decide (x.2.1 ≤ t10.1)
  .ite t13 (
    .step (0 ≤ (0 : Int)) (
    .step ((0 : Int) < x.1.2.2.1.length) (
    let t16 := x.1.2.2.1.getD (0 : Int).toNat ((0, 0, 0, 0, ()) : (Int × Nat × Nat × Nat × Unit))
    .ret (((t16.2.1, t16.2.2.1, t16.2.2.2.1, ()), ()), (()))))
  ) (
    .loop ((1 : Int), ()) (fun y q => (x.2.1 = x.2.1) ∧ True ∧ True ∧ ((1 : Int) = y.1) ∧ ((x.1.1 = x.1.1) ∧ (x.1.2.1 = x.1.2.1) ∧ (x.1.2.2.1 = x.1.2.2.1) ∧ True) ∧ (((0 : Nat) = (0 : Nat)) ∧ ((0 : Nat) = (0 : Nat)) ∧ ((0 : Nat) = (0 : Nat)) ∧ True) ∧ q) (fun _ h => ⟨rfl, trivial, trivial, rfl, ⟨rfl, rfl, rfl, trivial⟩, ⟨rfl, rfl, rfl, trivial⟩, h⟩) (((0, 0, 0, ()), ()), (())) (lp32_1 p60 f60 x)
  )))
noncomputable def pp32 (x : X32) : List Prop := [(tr32 pp60 ff60 x).U]
noncomputable def ff32 (x : X32) : W32 := (tr32 pp60 ff60 x).W
noncomputable def s32 : FSpec := ⟨P32, R32, pp32, ff32⟩
def E32 (p60 : X60 → List Prop) (f60 : X60 → W60) : Env := fun f => get1 [(60, ⟨P60, R60, p60, f60⟩)] f
set_option maxRecDepth 100000 in
theorem e32 (p60 : X60 → List Prop) (f60 : X60 → W60) (x : X32) (Q : RsT R32 → OsT P32 → Prop) : evFun TT (E32 p60 f60) Try.f32.ntmps (an32 x) (bodyOf Try.f32) Try.f32.results.toList P32 R32 x Q = (tr32 p60 f60 x).V (fun w => Q w.1 w.2) := by kernel_rfl
set_option maxRecDepth 100000 in
theorem ok32 : EnvOK Try.prog (E32 pp60 ff60) := envOK_of (by
  intro p hp
  simp only [List.mem_cons, List.not_mem_nil, or_false] at hp
  rcases hp with rfl
  · exact snd60)
theorem b32 (x : X32) (h : (tr32 pp60 ff60 x).U) : Holds (evFun TT (E32 pp60 ff60) Try.f32.ntmps (an32 x) (bodyOf Try.f32) Try.f32.results.toList P32 R32 x (fun r o => (r, o) = (tr32 pp60 ff60 x).W)) := by
  constructor; rw [e32]; exact VT.sound _ h rfl
set_option maxRecDepth 100000 in
theorem snd32 : Sound Try.prog 32 s32 := sound_h (fs := s32) tt_ok mixed ok32 Try.func32 rfl (by kernel_rfl) (ann := an32) fun x h => b32 x (h _ (List.mem_singleton.2 rfl))
end Go.Proofs.Ytmlolnaannoifaa

/- A function of the program as a plain function. Written by wip/gen/gen.py. -/
namespace Go.Proofs.Ytmlolnaannoifaa

/- 136 slices.Clone[[]float32,float32] -/
abbrev P136 : List PK := [.val (.sl (.flt .f32))]
abbrev R136 : List RK := [.one (.sl (.flt .f32))]
abbrev X136 : Type := List Nat × Unit
abbrev W136 : Type := (List Nat × Unit) × Unit
noncomputable def tr136 (x : X136) : VT W136 :=
  .pb (x.1 = []) (
    .ret (([], ()), (()))
  ) (
    .step (x.1.length ≤ 1099511627776) (
    .step (x.1.length = x.1.length) <|
    .ret ((x.1, ()), (())))
  )
noncomputable def pp136 (x : X136) : List Prop := [(tr136 x).U]
noncomputable def ff136 (x : X136) : W136 := (tr136 x).W
noncomputable def s136 : FSpec := ⟨P136, R136, pp136, ff136⟩
def E136 : Env := fun f => get1 [] f
set_option maxRecDepth 100000 in
theorem e136 (x : X136) (Q : RsT R136 → OsT P136 → Prop) : evFun TT (E136) Try.f136.ntmps (fun _ => none) (bodyOf Try.f136) Try.f136.results.toList P136 R136 x Q = (tr136 x).V (fun w => Q w.1 w.2) := by kernel_rfl
set_option maxRecDepth 100000 in
theorem ok136 : EnvOK Try.prog E136 := envOK_of (by intro p hp; simp at hp)
theorem b136 (x : X136) (h : (tr136 x).U) : Holds (evFun TT (E136) Try.f136.ntmps (fun _ => none) (bodyOf Try.f136) Try.f136.results.toList P136 R136 x (fun r o => (r, o) = (tr136 x).W)) := by
  constructor; rw [e136]; exact VT.sound _ h rfl
set_option maxRecDepth 100000 in
theorem snd136 : Sound Try.prog 136 s136 := sound_h (fs := s136) tt_ok mixed ok136 Try.func136 rfl (by kernel_rfl) (ann := fun _ _ => none) fun x h => b136 x (h _ (List.mem_singleton.2 rfl))
end Go.Proofs.Ytmlolnaannoifaa

/- A function of the program as a plain function. Written by wip/gen/gen.py. -/
namespace Go.Proofs.Ytmlolnaannoifaa

/- 103 loop.example/g01193/impl.cloneNode -/
abbrev P103 : List PK := [.st (.pair (.int .i64) (.pair (.int .i64) (.pair (.int .i64) (.pair (.sl (.flt .f32)) .unit))))]
abbrev R103 : List RK := [.st (.pair (.int .i64) (.pair (.int .i64) (.pair (.int .i64) (.pair (.sl (.flt .f32)) .unit))))]
abbrev X103 : Type := (Int × Int × Int × List Nat × Unit) × Unit
abbrev W103 : Type := ((Int × Int × Int × List Nat × Unit) × Unit) × Unit
noncomputable def tr103 (p136 : X136 → List Prop) (f136 : X136 → W136) (x : X103) : VT W103 :=
  .pre (p136 (x.1.2.2.2.1, ())) (
  let t5 := f136 (x.1.2.2.2.1, ())
  .ret (((x.1.1, x.1.2.1, x.1.2.2.1, t5.1.1, ()), ()), (())))
noncomputable def pp103 (x : X103) : List Prop := [(tr103 pp136 ff136 x).U]
noncomputable def ff103 (x : X103) : W103 := (tr103 pp136 ff136 x).W
noncomputable def s103 : FSpec := ⟨P103, R103, pp103, ff103⟩
def E103 (p136 : X136 → List Prop) (f136 : X136 → W136) : Env := fun f => get1 [(136, ⟨P136, R136, p136, f136⟩)] f
set_option maxRecDepth 100000 in
theorem e103 (p136 : X136 → List Prop) (f136 : X136 → W136) (x : X103) (Q : RsT R103 → OsT P103 → Prop) : evFun TT (E103 p136 f136) Try.f103.ntmps (fun _ => none) (bodyOf Try.f103) Try.f103.results.toList P103 R103 x Q = (tr103 p136 f136 x).V (fun w => Q w.1 w.2) := by kernel_rfl
set_option maxRecDepth 100000 in
theorem ok103 : EnvOK Try.prog (E103 pp136 ff136) := envOK_of (by
  intro p hp
  simp only [List.mem_cons, List.not_mem_nil, or_false] at hp
  rcases hp with rfl
  · exact snd136)
theorem b103 (x : X103) (h : (tr103 pp136 ff136 x).U) : Holds (evFun TT (E103 pp136 ff136) Try.f103.ntmps (fun _ => none) (bodyOf Try.f103) Try.f103.results.toList P103 R103 x (fun r o => (r, o) = (tr103 pp136 ff136 x).W)) := by
  constructor; rw [e103]; exact VT.sound _ h rfl
set_option maxRecDepth 100000 in
theorem snd103 : Sound Try.prog 103 s103 := sound_h (fs := s103) tt_ok mixed ok103 Try.func103 rfl (by kernel_rfl) (ann := fun _ _ => none) fun x h => b103 x (h _ (List.mem_singleton.2 rfl))
end Go.Proofs.Ytmlolnaannoifaa

/- A function of the program as a plain function. Written by wip/gen/gen.py. -/
namespace Go.Proofs.Ytmlolnaannoifaa

/- 62 loop.example/g01193/impl.cloneShape -/
abbrev P62 : List PK := [.st (.pair (.sl (.pair (.int .i64) (.pair (.int .i64) (.pair (.int .i64) (.pair (.sl (.flt .f32)) .unit))))) .unit)]
abbrev R62 : List RK := [.st (.pair (.own (.pair (.int .i64) (.pair (.int .i64) (.pair (.int .i64) (.pair (.sl (.flt .f32)) .unit))))) .unit)]
abbrev X62 : Type := ((List (Int × Int × Int × List Nat × Unit)) × Unit) × Unit
abbrev W62 : Type := (((List (Int × Int × Int × List Nat × Unit)) × Unit) × Unit) × Unit
abbrev K62_r3 : Type := Int × Int × (List (Int × Int × Int × List Nat × Unit)) × Unit
noncomputable def lp62_1 (p103 : X103 → List Prop) (f103 : X103 → W103) (x : X62) (k : K62_r3) : VT (K62_r3 ⊕ W62) :=
  let t11 := decide (k.2.1 < k.1)
  .ite t11 (
    .step (0 ≤ k.2.1) (
    .step (k.2.1 < x.1.1.length) (
    let t12 := x.1.1.getD k.2.1.toNat ((0, 0, 0, [], ()) : (Int × Int × Int × List Nat × Unit))
    .pre (p103 ((t12.1, t12.2.1, t12.2.2.1, t12.2.2.2.1, ()), ())) (
    let t17 := f103 ((t12.1, t12.2.1, t12.2.2.1, t12.2.2.2.1, ()), ())
    let t18 := [(t17.1.1.1, t17.1.1.2.1, t17.1.1.2.2.1, t17.1.1.2.2.2.1, ())]
    .step (k.2.2.1.length = k.2.2.1.length) (
    .step (k.2.2.1.length + t18.length ≤ 1099511627776) (
    let t19 := k.2.2.1 ++ t18
    let t21 := IntKind.wrap .i64 (k.2.1 + (1 : Int))
    .next (k.1, t21, t19, ()) (fun y q => True ∧ True ∧ (x.1.1 = x.1.1) ∧ (k.1 = y.1) ∧ (t21 = y.2.1) ∧ (t19 = y.2.2.1) ∧ (True ∧ True) ∧ ((t19.length = y.2.2.1.length) ∧ True) ∧ q) (fun _ h => ⟨trivial, trivial, rfl, rfl, rfl, rfl, ⟨trivial, trivial⟩, ⟨rfl, trivial⟩, h⟩))))))
  ) (
    .exit (
    .step (k.2.2.1.length = k.2.2.1.length) <|
    .ret (((k.2.2.1, ()), ()), (())))
  )
def an62 (x : X62) : Nat → Option Ann := fun i =>
  bif Nat.beq i 3 then some ⟨K62_r3, fun k => ⟨[(2, .one (.ptr 65584 0)), (3, .one (.ptr 65600 0)), (8, .one (.d (.sl (.pair (.int .i64) (.pair (.int .i64) (.pair (.int .i64) (.pair (.sl (.flt .f32)) .unit))))) x.1.1)), (9, .one (.d (.int .i64) k.1)), (10, .one (.d (.int .i64) k.2.1))], [(32768, .vec (.pair (.int .i64) (.pair (.int .i64) (.pair (.int .i64) (.pair (.sl (.flt .f32)) .unit)))) k.2.2.1), (65584, .box [.nilsl]), (65600, .box [(.osl (.pair (.int .i64) (.pair (.int .i64) (.pair (.int .i64) (.pair (.sl (.flt .f32)) .unit)))) 32768 k.2.2.1.length)])]⟩, [.cell 65600 0 (.pair (.int .i64) (.pair (.int .i64) (.pair (.int .i64) (.pair (.sl (.flt .f32)) .unit)))) 32768]⟩ else
  none
noncomputable def tr62 (p103 : X103 → List Prop) (f103 : X103 → W103) (x : X62) : VT W62 :=
  let t9 := (x.1.1.length : Int)
  .loop (t9, (0 : Int), [], ()) (fun y q => True ∧ True ∧ (x.1.1 = x.1.1) ∧ (t9 = y.1) ∧ ((0 : Int) = y.2.1) ∧ ([] = y.2.2.1) ∧ (True ∧ True) ∧ ((0 = y.2.2.1.length) ∧ True) ∧ q) (fun _ h => ⟨trivial, trivial, rfl, rfl, rfl, rfl, ⟨trivial, trivial⟩, ⟨rfl, trivial⟩, h⟩) ((([], ()), ()), (())) (lp62_1 p103 f103 x)
noncomputable def pp62 (x : X62) : List Prop := [(tr62 pp103 ff103 x).U]
noncomputable def ff62 (x : X62) : W62 := (tr62 pp103 ff103 x).W
noncomputable def s62 : FSpec := ⟨P62, R62, pp62, ff62⟩
def E62 (p103 : X103 → List Prop) (f103 : X103 → W103) : Env := fun f => get1 [(103, ⟨P103, R103, p103, f103⟩)] f
set_option maxRecDepth 100000 in
theorem e62 (p103 : X103 → List Prop) (f103 : X103 → W103) (x : X62) (Q : RsT R62 → OsT P62 → Prop) : evFun TT (E62 p103 f103) Try.f62.ntmps (an62 x) (bodyOf Try.f62) Try.f62.results.toList P62 R62 x Q = (tr62 p103 f103 x).V (fun w => Q w.1 w.2) := by kernel_rfl
set_option maxRecDepth 100000 in
theorem ok62 : EnvOK Try.prog (E62 pp103 ff103) := envOK_of (by
  intro p hp
  simp only [List.mem_cons, List.not_mem_nil, or_false] at hp
  rcases hp with rfl
  · exact snd103)
theorem b62 (x : X62) (h : (tr62 pp103 ff103 x).U) : Holds (evFun TT (E62 pp103 ff103) Try.f62.ntmps (an62 x) (bodyOf Try.f62) Try.f62.results.toList P62 R62 x (fun r o => (r, o) = (tr62 pp103 ff103 x).W)) := by
  constructor; rw [e62]; exact VT.sound _ h rfl
set_option maxRecDepth 100000 in
theorem snd62 : Sound Try.prog 62 s62 := sound_h (fs := s62) tt_ok mixed ok62 Try.func62 rfl (by kernel_rfl) (ann := an62) fun x h => b62 x (h _ (List.mem_singleton.2 rfl))
end Go.Proofs.Ytmlolnaannoifaa

/- A function of the program as a plain function. Written by wip/gen/gen.py. -/
namespace Go.Proofs.Ytmlolnaannoifaa

/- 63 (*loop.example/g01193/impl.Shape).last -/
abbrev P63 : List PK := [.ro (.pair (.sl (.pair (.int .i64) (.pair (.int .i64) (.pair (.int .i64) (.pair (.sl (.flt .f32)) .unit))))) .unit)]
abbrev R63 : List RK := [.one (.int .i64)]
abbrev X63 : Type := ((List (Int × Int × Int × List Nat × Unit)) × Unit) × Unit
abbrev W63 : Type := (Int × Unit) × Unit
noncomputable def tr63 (x : X63) : VT W63 :=
  let t7 := (x.1.1.length : Int)
  let t8 := IntKind.wrap .i64 (t7 - (1 : Int))
  .ret ((t8, ()), (()))
noncomputable def pp63 (x : X63) : List Prop := [(tr63 x).U]
noncomputable def ff63 (x : X63) : W63 := (tr63 x).W
noncomputable def s63 : FSpec := ⟨P63, R63, pp63, ff63⟩
def E63 : Env := fun f => get1 [] f
set_option maxRecDepth 100000 in
theorem e63 (x : X63) (Q : RsT R63 → OsT P63 → Prop) : evFun TT (E63) Try.f63.ntmps (fun _ => none) (bodyOf Try.f63) Try.f63.results.toList P63 R63 x Q = (tr63 x).V (fun w => Q w.1 w.2) := by kernel_rfl
set_option maxRecDepth 100000 in
theorem ok63 : EnvOK Try.prog E63 := envOK_of (by intro p hp; simp at hp)
theorem b63 (x : X63) (h : (tr63 x).U) : Holds (evFun TT (E63) Try.f63.ntmps (fun _ => none) (bodyOf Try.f63) Try.f63.results.toList P63 R63 x (fun r o => (r, o) = (tr63 x).W)) := by
  constructor; rw [e63]; exact VT.sound _ h rfl
set_option maxRecDepth 100000 in
theorem snd63 : Sound Try.prog 63 s63 := sound_h (fs := s63) tt_ok mixed ok63 Try.func63 rfl (by kernel_rfl) (ann := fun _ _ => none) fun x h => b63 x (h _ (List.mem_singleton.2 rfl))
end Go.Proofs.Ytmlolnaannoifaa

/- A function of the program as a plain function. Written by wip/gen/gen.py. -/
namespace Go.Proofs.Ytmlolnaannoifaa

/- 64 loop.example/g01193/impl.told -/
abbrev P64 : List PK := [.st (.pair (.sl (.pair (.int .i64) (.pair (.int .i64) (.pair (.int .i64) (.pair (.sl (.flt .f32)) .unit))))) .unit)]
abbrev R64 : List RK := [.st (.pair (.sl (.pair (.int .i64) (.pair (.int .i64) (.pair (.int .i64) (.pair (.sl (.flt .f32)) .unit))))) .unit), .one .bool]
abbrev X64 : Type := ((List (Int × Int × Int × List Nat × Unit)) × Unit) × Unit
abbrev W64 : Type := (((List (Int × Int × Int × List Nat × Unit)) × Unit) × Bool × Unit) × Unit
noncomputable def tr64 (p36 : X36 → List Prop) (f36 : X36 → W36) (p62 : X62 → List Prop) (f62 : X62 → W62) (x : X64) : VT W64 :=
  .pre (p36 ((x.1.1, ()), ())) (
  let t5 := f36 ((x.1.1, ()), ())
  let t6 := !t5.1.1
  .ite t6 (
    .ret ((([], ()), false, ()), (()))
  ) (
    .pre (p62 ((x.1.1, ()), ())) (
    let t9 := f62 ((x.1.1, ()), ())
    .step (t9.1.1.1.length = t9.1.1.1.length) <|
    .ret (((t9.1.1.1, ()), true, ()), (())))
  ))
noncomputable def pp64 (x : X64) : List Prop := [(tr64 pp36 ff36 pp62 ff62 x).U]
noncomputable def ff64 (x : X64) : W64 := (tr64 pp36 ff36 pp62 ff62 x).W
noncomputable def s64 : FSpec := ⟨P64, R64, pp64, ff64⟩
def E64 (p36 : X36 → List Prop) (f36 : X36 → W36) (p62 : X62 → List Prop) (f62 : X62 → W62) : Env := fun f => get1 [(36, ⟨P36, R36, p36, f36⟩), (62, ⟨P62, R62, p62, f62⟩)] f
set_option maxRecDepth 100000 in
theorem e64 (p36 : X36 → List Prop) (f36 : X36 → W36) (p62 : X62 → List Prop) (f62 : X62 → W62) (x : X64) (Q : RsT R64 → OsT P64 → Prop) : evFun TT (E64 p36 f36 p62 f62) Try.f64.ntmps (fun _ => none) (bodyOf Try.f64) Try.f64.results.toList P64 R64 x Q = (tr64 p36 f36 p62 f62 x).V (fun w => Q w.1 w.2) := by kernel_rfl
set_option maxRecDepth 100000 in
theorem ok64 : EnvOK Try.prog (E64 pp36 ff36 pp62 ff62) := envOK_of (by
  intro p hp
  simp only [List.mem_cons, List.not_mem_nil, or_false] at hp
  rcases hp with rfl | rfl
  · exact snd36
  · exact snd62)
theorem b64 (x : X64) (h : (tr64 pp36 ff36 pp62 ff62 x).U) : Holds (evFun TT (E64 pp36 ff36 pp62 ff62) Try.f64.ntmps (fun _ => none) (bodyOf Try.f64) Try.f64.results.toList P64 R64 x (fun r o => (r, o) = (tr64 pp36 ff36 pp62 ff62 x).W)) := by
  constructor; rw [e64]; exact VT.sound _ h rfl
set_option maxRecDepth 100000 in
theorem snd64 : Sound Try.prog 64 s64 := sound_h (fs := s64) tt_ok mixed ok64 Try.func64 rfl (by kernel_rfl) (ann := fun _ _ => none) fun x h => b64 x (h _ (List.mem_singleton.2 rfl))
end Go.Proofs.Ytmlolnaannoifaa

/- A function of the program as a plain function. Written by wip/gen/gen.py. -/
namespace Go.Proofs.Ytmlolnaannoifaa

/- 33 loop.example/g01193/impl.WrapShape -/
abbrev P33 : List PK := [.val (.int .i64), .st (.pair (.sl (.pair (.int .i64) (.pair (.int .i64) (.pair (.int .i64) (.pair (.sl (.flt .f32)) .unit))))) .unit), .val (.int .i64), .val (.sl (.flt .f32))]
abbrev R33 : List RK := [.st (.pair (.sl (.pair (.int .i64) (.pair (.int .i64) (.pair (.int .i64) (.pair (.sl (.flt .f32)) .unit))))) .unit), .one .bool]
abbrev X33 : Type := Int × ((List (Int × Int × Int × List Nat × Unit)) × Unit) × Int × List Nat × Unit
abbrev W33 : Type := (((List (Int × Int × Int × List Nat × Unit)) × Unit) × Bool × Unit) × Unit
noncomputable def tr33 (p36 : X36 → List Prop) (f36 : X36 → W36) (p61 : X61 → List Prop) (f61 : X61 → W61) (p62 : X62 → List Prop) (f62 : X62 → W62) (p63 : X63 → List Prop) (f63 : X63 → W63) (p64 : X64 → List Prop) (f64 : X64 → W64) (x : X33) : VT W33 :=
  .pre (p61 (x.1, ())) (
  let t15 := f61 (x.1, ())
  let t19 := !t15.1.2.1
  .ite t19 (
    .ret ((([], ()), false, ()), (()))
  ) (
    let t23 := !decide (t15.1.1.2.1 = (1 : Int))
    .ite t23 (
      .ret ((([], ()), false, ()), (()))
    ) (
      .pre (p36 ((x.2.1.1, ()), ())) (
      let t27 := f36 ((x.2.1.1, ()), ())
      let t28 := !t27.1.1
      .ite t28 (
        .ret ((([], ()), false, ()), (()))
      ) (
        .pre (p62 ((x.2.1.1, ()), ())) (
        let t32 := f62 ((x.2.1.1, ()), ())
        .pre (p63 ((x.2.1.1, ()), ())) (
        let t36 := f63 ((x.2.1.1, ()), ())
        let t40 := [(x.1, t36.1.1, x.2.2.1, x.2.2.2.1, ())]
        .step (t32.1.1.1.length = t32.1.1.1.length) (
        .step (t32.1.1.1.length + t40.length ≤ 1099511627776) (
        let t41 := t32.1.1.1 ++ t40
        .step (t41.length = t41.length) (
        .pre (p64 ((t41, ()), ())) (
        let t44 := f64 ((t41, ()), ())
        .ret (((t44.1.1.1, ()), t44.1.2.1, ()), (()))))))))
      ))
    )
  ))
noncomputable def pp33 (x : X33) : List Prop := [(tr33 pp36 ff36 pp61 ff61 pp62 ff62 pp63 ff63 pp64 ff64 x).U]
noncomputable def ff33 (x : X33) : W33 := (tr33 pp36 ff36 pp61 ff61 pp62 ff62 pp63 ff63 pp64 ff64 x).W
noncomputable def s33 : FSpec := ⟨P33, R33, pp33, ff33⟩
def E33 (p36 : X36 → List Prop) (f36 : X36 → W36) (p61 : X61 → List Prop) (f61 : X61 → W61) (p62 : X62 → List Prop) (f62 : X62 → W62) (p63 : X63 → List Prop) (f63 : X63 → W63) (p64 : X64 → List Prop) (f64 : X64 → W64) : Env := fun f => get1 [(36, ⟨P36, R36, p36, f36⟩), (61, ⟨P61, R61, p61, f61⟩), (62, ⟨P62, R62, p62, f62⟩), (63, ⟨P63, R63, p63, f63⟩), (64, ⟨P64, R64, p64, f64⟩)] f
set_option maxRecDepth 100000 in
theorem e33 (p36 : X36 → List Prop) (f36 : X36 → W36) (p61 : X61 → List Prop) (f61 : X61 → W61) (p62 : X62 → List Prop) (f62 : X62 → W62) (p63 : X63 → List Prop) (f63 : X63 → W63) (p64 : X64 → List Prop) (f64 : X64 → W64) (x : X33) (Q : RsT R33 → OsT P33 → Prop) : evFun TT (E33 p36 f36 p61 f61 p62 f62 p63 f63 p64 f64) Try.f33.ntmps (fun _ => none) (bodyOf Try.f33) Try.f33.results.toList P33 R33 x Q = (tr33 p36 f36 p61 f61 p62 f62 p63 f63 p64 f64 x).V (fun w => Q w.1 w.2) := by kernel_rfl
set_option maxRecDepth 100000 in
theorem ok33 : EnvOK Try.prog (E33 pp36 ff36 pp61 ff61 pp62 ff62 pp63 ff63 pp64 ff64) := envOK_of (by
  intro p hp
  simp only [List.mem_cons, List.not_mem_nil, or_false] at hp
  rcases hp with rfl | rfl | rfl | rfl | rfl
  · exact snd36
  · exact snd61
  · exact snd62
  · exact snd63
  · exact snd64)
theorem b33 (x : X33) (h : (tr33 pp36 ff36 pp61 ff61 pp62 ff62 pp63 ff63 pp64 ff64 x).U) : Holds (evFun TT (E33 pp36 ff36 pp61 ff61 pp62 ff62 pp63 ff63 pp64 ff64) Try.f33.ntmps (fun _ => none) (bodyOf Try.f33) Try.f33.results.toList P33 R33 x (fun r o => (r, o) = (tr33 pp36 ff36 pp61 ff61 pp62 ff62 pp63 ff63 pp64 ff64 x).W)) := by
  constructor; rw [e33]; exact VT.sound _ h rfl
set_option maxRecDepth 100000 in
theorem snd33 : Sound Try.prog 33 s33 := sound_h (fs := s33) tt_ok mixed ok33 Try.func33 rfl (by kernel_rfl) (ann := fun _ _ => none) fun x h => b33 x (h _ (List.mem_singleton.2 rfl))
end Go.Proofs.Ytmlolnaannoifaa

/- A function of the program as a plain function. Written by wip/gen/gen.py. -/
namespace Go.Proofs.Ytmlolnaannoifaa

/- 65 loop.example/g01193/impl.JoinShapes -/
abbrev P65 : List PK := [.val (.int .i64), .st (.pair (.sl (.pair (.int .i64) (.pair (.int .i64) (.pair (.int .i64) (.pair (.sl (.flt .f32)) .unit))))) .unit), .st (.pair (.sl (.pair (.int .i64) (.pair (.int .i64) (.pair (.int .i64) (.pair (.sl (.flt .f32)) .unit))))) .unit), .val (.sl (.flt .f32))]
abbrev R65 : List RK := [.st (.pair (.sl (.pair (.int .i64) (.pair (.int .i64) (.pair (.int .i64) (.pair (.sl (.flt .f32)) .unit))))) .unit), .one .bool]
abbrev X65 : Type := Int × ((List (Int × Int × Int × List Nat × Unit)) × Unit) × ((List (Int × Int × Int × List Nat × Unit)) × Unit) × List Nat × Unit
abbrev W65 : Type := (((List (Int × Int × Int × List Nat × Unit)) × Unit) × Bool × Unit) × Unit
abbrev K65_r6 : Type := Int × Int × Int × (List (Int × Int × Int × List Nat × Unit)) × Unit
noncomputable def lp65_1 (p36 : X36 → List Prop) (f36 : X36 → W36) (p61 : X61 → List Prop) (f61 : X61 → W61) (p62 : X62 → List Prop) (f62 : X62 → W62) (p63 : X63 → List Prop) (f63 : X63 → W63) (p64 : X64 → List Prop) (f64 : X64 → W64) (x : X65) (k : K65_r6) : VT (K65_r6 ⊕ W65) :=
  let t50 := decide (k.2.2.1 < k.2.1)
  .ite t50 (
    .step (0 ≤ k.2.2.1) (
    .step (k.2.2.1 < x.2.2.1.1.length) (
    let t51 := x.2.2.1.1.getD k.2.2.1.toNat ((0, 0, 0, [], ()) : (Int × Int × Int × List Nat × Unit))
    .pre (p61 (t51.1, ())) (
    let t56 := f61 (t51.1, ())
    let t61 := decide ((0 : Int) < t56.1.1.2.1)
    .ite t61 (
      let t65 := IntKind.wrap .i64 (t51.2.1 + k.1)
      let t69 := decide ((1 : Int) < t56.1.1.2.1)
      .ite t69 (
        let t73 := IntKind.wrap .i64 (t51.2.2.1 + k.1)
        let t78 := [(t51.1, t65, t73, t51.2.2.2.1, ())]
        .step (k.2.2.2.1.length = k.2.2.2.1.length) (
        .step (k.2.2.2.1.length + t78.length ≤ 1099511627776) (
        let t79 := k.2.2.2.1 ++ t78
        let t81 := IntKind.wrap .i64 (k.2.2.1 + (1 : Int))
        .next (k.1, k.2.1, t81, t79, ()) (fun y q => (x.1 = x.1) ∧ (x.2.2.2.1 = x.2.2.2.1) ∧ True ∧ True ∧ True ∧ (k.1 = y.1) ∧ (x.2.2.1.1 = x.2.2.1.1) ∧ (k.2.1 = y.2.1) ∧ (t81 = y.2.2.1) ∧ ((x.2.1.1 = x.2.1.1) ∧ True) ∧ (True ∧ True) ∧ ((t79.length = y.2.2.2.1.length) ∧ True) ∧ (t79 = y.2.2.2.1) ∧ q) (fun _ h => ⟨rfl, rfl, trivial, trivial, trivial, rfl, rfl, rfl, rfl, ⟨rfl, trivial⟩, ⟨trivial, trivial⟩, ⟨rfl, trivial⟩, rfl, h⟩)))
      ) (
        let t78_1 := [(t51.1, t65, t51.2.2.1, t51.2.2.2.1, ())]
        .step (k.2.2.2.1.length = k.2.2.2.1.length) (
        .step (k.2.2.2.1.length + t78_1.length ≤ 1099511627776) (
        let t79_1 := k.2.2.2.1 ++ t78_1
        let t81_1 := IntKind.wrap .i64 (k.2.2.1 + (1 : Int))
        .next (k.1, k.2.1, t81_1, t79_1, ()) (fun y q => (x.1 = x.1) ∧ (x.2.2.2.1 = x.2.2.2.1) ∧ True ∧ True ∧ True ∧ (k.1 = y.1) ∧ (x.2.2.1.1 = x.2.2.1.1) ∧ (k.2.1 = y.2.1) ∧ (t81_1 = y.2.2.1) ∧ ((x.2.1.1 = x.2.1.1) ∧ True) ∧ (True ∧ True) ∧ ((t79_1.length = y.2.2.2.1.length) ∧ True) ∧ (t79_1 = y.2.2.2.1) ∧ q) (fun _ h => ⟨rfl, rfl, trivial, trivial, trivial, rfl, rfl, rfl, rfl, ⟨rfl, trivial⟩, ⟨trivial, trivial⟩, ⟨rfl, trivial⟩, rfl, h⟩)))
      )
    ) (
      let t69_1 := decide ((1 : Int) < t56.1.1.2.1)
      .ite t69_1 (
        let t73_1 := IntKind.wrap .i64 (t51.2.2.1 + k.1)
        let t78_2 := [(t51.1, t51.2.1, t73_1, t51.2.2.2.1, ())]
        .step (k.2.2.2.1.length = k.2.2.2.1.length) (
        .step (k.2.2.2.1.length + t78_2.length ≤ 1099511627776) (
        let t79_2 := k.2.2.2.1 ++ t78_2
        let t81_2 := IntKind.wrap .i64 (k.2.2.1 + (1 : Int))
        .next (k.1, k.2.1, t81_2, t79_2, ()) (fun y q => (x.1 = x.1) ∧ (x.2.2.2.1 = x.2.2.2.1) ∧ True ∧ True ∧ True ∧ (k.1 = y.1) ∧ (x.2.2.1.1 = x.2.2.1.1) ∧ (k.2.1 = y.2.1) ∧ (t81_2 = y.2.2.1) ∧ ((x.2.1.1 = x.2.1.1) ∧ True) ∧ (True ∧ True) ∧ ((t79_2.length = y.2.2.2.1.length) ∧ True) ∧ (t79_2 = y.2.2.2.1) ∧ q) (fun _ h => ⟨rfl, rfl, trivial, trivial, trivial, rfl, rfl, rfl, rfl, ⟨rfl, trivial⟩, ⟨trivial, trivial⟩, ⟨rfl, trivial⟩, rfl, h⟩)))
      ) (
        let t78_3 := [(t51.1, t51.2.1, t51.2.2.1, t51.2.2.2.1, ())]
        .step (k.2.2.2.1.length = k.2.2.2.1.length) (
        .step (k.2.2.2.1.length + t78_3.length ≤ 1099511627776) (
        let t79_3 := k.2.2.2.1 ++ t78_3
        let t81_3 := IntKind.wrap .i64 (k.2.2.1 + (1 : Int))
        .next (k.1, k.2.1, t81_3, t79_3, ()) (fun y q => (x.1 = x.1) ∧ (x.2.2.2.1 = x.2.2.2.1) ∧ True ∧ True ∧ True ∧ (k.1 = y.1) ∧ (x.2.2.1.1 = x.2.2.1.1) ∧ (k.2.1 = y.2.1) ∧ (t81_3 = y.2.2.1) ∧ ((x.2.1.1 = x.2.1.1) ∧ True) ∧ (True ∧ True) ∧ ((t79_3.length = y.2.2.2.1.length) ∧ True) ∧ (t79_3 = y.2.2.2.1) ∧ q) (fun _ h => ⟨rfl, rfl, trivial, trivial, trivial, rfl, rfl, rfl, rfl, ⟨rfl, trivial⟩, ⟨trivial, trivial⟩, ⟨rfl, trivial⟩, rfl, h⟩)))
      )
    ))))
  ) (
    .exit (
    .pre (p63 ((x.2.1.1, ()), ())) (
    let t85 := f63 ((x.2.1.1, ()), ())
    .step (k.2.2.2.1.length = k.2.2.2.1.length) (
    .pre (p63 ((k.2.2.2.1, ()), ())) (
    let t86 := f63 ((k.2.2.2.1, ()), ())
    let t89 := [(x.1, t85.1.1, t86.1.1, x.2.2.2.1, ())]
    .step (k.2.2.2.1.length = k.2.2.2.1.length) (
    .step (k.2.2.2.1.length + t89.length ≤ 1099511627776) (
    let t90 := k.2.2.2.1 ++ t89
    .step (t90.length = t90.length) (
    .pre (p64 ((t90, ()), ())) (
    let t93 := f64 ((t90, ()), ())
    .ret (((t93.1.1.1, ()), t93.1.2.1, ()), (()))))))))))
  )
def an65 (x : X65) : Nat → Option Ann := fun i =>
  bif Nat.beq i 6 then some ⟨K65_r6, fun k => ⟨[(0, .one (.d (.int .i64) x.1)), (3, .one (.d (.sl (.flt .f32)) x.2.2.2.1)), (5, .one (.ptr 65632 0)), (8, .one (.ptr 65680 0)), (12, .one (.ptr 65744 0)), (13, .one (.d (.int .i64) k.1)), (47, .one (.d (.sl (.pair (.int .i64) (.pair (.int .i64) (.pair (.int .i64) (.pair (.sl (.flt .f32)) .unit))))) x.2.2.1.1)), (48, .one (.d (.int .i64) k.2.1)), (49, .one (.d (.int .i64) k.2.2.1))], [(65632, .box [(.d (.sl (.pair (.int .i64) (.pair (.int .i64) (.pair (.int .i64) (.pair (.sl (.flt .f32)) .unit))))) x.2.1.1)]), (65680, .box [.nilsl]), (65744, .box [(.osl (.pair (.int .i64) (.pair (.int .i64) (.pair (.int .i64) (.pair (.sl (.flt .f32)) .unit)))) 66224 k.2.2.2.1.length)]), (66224, .vec (.pair (.int .i64) (.pair (.int .i64) (.pair (.int .i64) (.pair (.sl (.flt .f32)) .unit)))) k.2.2.2.1)]⟩, []⟩ else
  none
noncomputable def tr65 (p36 : X36 → List Prop) (f36 : X36 → W36) (p61 : X61 → List Prop) (f61 : X61 → W61) (p62 : X62 → List Prop) (f62 : X62 → W62) (p63 : X63 → List Prop) (f63 : X63 → W63) (p64 : X64 → List Prop) (f64 : X64 → W64) (x : X65) : VT W65 :=
  .pre (p61 (x.1, ())) (
  let t20 := f61 (x.1, ())
  let t24 := !t20.1.2.1
  .ite t24 (
    .ret ((([], ()), false, ()), (()))
  ) (
    let t28 := !decide (t20.1.1.2.1 = (2 : Int))
    .ite t28 (
      .ret ((([], ()), false, ()), (()))
    ) (
      .pre (p36 ((x.2.1.1, ()), ())) (
      let t32 := f36 ((x.2.1.1, ()), ())
      let t33 := !t32.1.1
      .ite t33 (
        .ret ((([], ()), false, ()), (()))
      ) (
        .pre (p36 ((x.2.2.1.1, ()), ())) (
        let t37 := f36 ((x.2.2.1.1, ()), ())
        let t38 := !t37.1.1
        .ite t38 (
          .ret ((([], ()), false, ()), (()))
        ) (
          .pre (p62 ((x.2.1.1, ()), ())) (
          let t42 := f62 ((x.2.1.1, ()), ())
          let t45 := (x.2.1.1.length : Int)
          let t48 := (x.2.2.1.1.length : Int)
          .loop (t45, t48, (0 : Int), t42.1.1.1, ()) (fun y q => (x.1 = x.1) ∧ (x.2.2.2.1 = x.2.2.2.1) ∧ True ∧ True ∧ True ∧ (t45 = y.1) ∧ (x.2.2.1.1 = x.2.2.1.1) ∧ (t48 = y.2.1) ∧ ((0 : Int) = y.2.2.1) ∧ ((x.2.1.1 = x.2.1.1) ∧ True) ∧ (True ∧ True) ∧ ((t42.1.1.1.length = y.2.2.2.1.length) ∧ True) ∧ (t42.1.1.1 = y.2.2.2.1) ∧ q) (fun _ h => ⟨rfl, rfl, trivial, trivial, trivial, rfl, rfl, rfl, rfl, ⟨rfl, trivial⟩, ⟨trivial, trivial⟩, ⟨rfl, trivial⟩, rfl, h⟩) ((([], ()), false, ()), (())) (lp65_1 p36 f36 p61 f61 p62 f62 p63 f63 p64 f64 x))
        ))
      ))
    )
  ))
noncomputable def pp65 (x : X65) : List Prop := [(tr65 pp36 ff36 pp61 ff61 pp62 ff62 pp63 ff63 pp64 ff64 x).U]
noncomputable def ff65 (x : X65) : W65 := (tr65 pp36 ff36 pp61 ff61 pp62 ff62 pp63 ff63 pp64 ff64 x).W
noncomputable def s65 : FSpec := ⟨P65, R65, pp65, ff65⟩
def E65 (p36 : X36 → List Prop) (f36 : X36 → W36) (p61 : X61 → List Prop) (f61 : X61 → W61) (p62 : X62 → List Prop) (f62 : X62 → W62) (p63 : X63 → List Prop) (f63 : X63 → W63) (p64 : X64 → List Prop) (f64 : X64 → W64) : Env := fun f => get1 [(36, ⟨P36, R36, p36, f36⟩), (61, ⟨P61, R61, p61, f61⟩), (62, ⟨P62, R62, p62, f62⟩), (63, ⟨P63, R63, p63, f63⟩), (64, ⟨P64, R64, p64, f64⟩)] f
set_option maxRecDepth 100000 in
theorem e65 (p36 : X36 → List Prop) (f36 : X36 → W36) (p61 : X61 → List Prop) (f61 : X61 → W61) (p62 : X62 → List Prop) (f62 : X62 → W62) (p63 : X63 → List Prop) (f63 : X63 → W63) (p64 : X64 → List Prop) (f64 : X64 → W64) (x : X65) (Q : RsT R65 → OsT P65 → Prop) : evFun TT (E65 p36 f36 p61 f61 p62 f62 p63 f63 p64 f64) Try.f65.ntmps (an65 x) (bodyOf Try.f65) Try.f65.results.toList P65 R65 x Q = (tr65 p36 f36 p61 f61 p62 f62 p63 f63 p64 f64 x).V (fun w => Q w.1 w.2) := by kernel_rfl
set_option maxRecDepth 100000 in
theorem ok65 : EnvOK Try.prog (E65 pp36 ff36 pp61 ff61 pp62 ff62 pp63 ff63 pp64 ff64) := envOK_of (by
  intro p hp
  simp only [List.mem_cons, List.not_mem_nil, or_false] at hp
  rcases hp with rfl | rfl | rfl | rfl | rfl
  · exact snd36
  · exact snd61
  · exact snd62
  · exact snd63
  · exact snd64)
theorem b65 (x : X65) (h : (tr65 pp36 ff36 pp61 ff61 pp62 ff62 pp63 ff63 pp64 ff64 x).U) : Holds (evFun TT (E65 pp36 ff36 pp61 ff61 pp62 ff62 pp63 ff63 pp64 ff64) Try.f65.ntmps (an65 x) (bodyOf Try.f65) Try.f65.results.toList P65 R65 x (fun r o => (r, o) = (tr65 pp36 ff36 pp61 ff61 pp62 ff62 pp63 ff63 pp64 ff64 x).W)) := by
  constructor; rw [e65]; exact VT.sound _ h rfl
set_option maxRecDepth 100000 in
theorem snd65 : Sound Try.prog 65 s65 := sound_h (fs := s65) tt_ok mixed ok65 Try.func65 rfl (by kernel_rfl) (ann := an65) fun x h => b65 x (h _ (List.mem_singleton.2 rfl))
end Go.Proofs.Ytmlolnaannoifaa

/- A function of the program as a plain function. Written by wip/gen/gen.py. -/
namespace Go.Proofs.Ytmlolnaannoifaa

/- 34 loop.example/g01193/impl.UnionOf -/
abbrev P34 : List PK := [.val (.sl (.pair (.sl (.pair (.int .i64) (.pair (.int .i64) (.pair (.int .i64) (.pair (.sl (.flt .f32)) .unit))))) .unit))]
abbrev R34 : List RK := [.st (.pair (.sl (.pair (.int .i64) (.pair (.int .i64) (.pair (.int .i64) (.pair (.sl (.flt .f32)) .unit))))) .unit), .one .bool]
abbrev X34 : Type := (List ((List (Int × Int × Int × List Nat × Unit)) × Unit)) × Unit
abbrev W34 : Type := (((List (Int × Int × Int × List Nat × Unit)) × Unit) × Bool × Unit) × Unit
abbrev K34_r5 : Type := Bool × (List ((List (Int × Int × Int × List Nat × Unit)) × Unit)) × Int × Int × (List (Int × Int × Int × List Nat × Unit)) × Unit
noncomputable def lp34_1 (p43 : X43 → List Prop) (f43 : X43 → W43) (p64 : X64 → List Prop) (f64 : X64 → W64) (p65 : X65 → List Prop) (f65 : X65 → W65) (x : X34) (k : K34_r5) : VT (K34_r5 ⊕ W34) :=
  let t24 := decide (k.2.2.2.1 < k.2.2.1)
  .ite t24 (
    .step (0 ≤ k.2.2.2.1) (
    .step (k.2.2.2.1 < k.2.1.length) (
    let t25 := k.2.1.getD k.2.2.2.1.toNat (([], ()) : ((List (Int × Int × Int × List Nat × Unit)) × Unit))
    let t28 := !k.1
    .ite t28 (
      .exit (
      .ret ((([], ()), false, ()), (())))
    ) (
      .pre (p65 ((5 : Int), (k.2.2.2.2.1, ()), (t25.1, ()), [], ())) (
      let t33 := f65 ((5 : Int), (k.2.2.2.2.1, ()), (t25.1, ()), [], ())
      let t36 := IntKind.wrap .i64 (k.2.2.2.1 + (1 : Int))
      .next (t33.1.2.1, k.2.1, k.2.2.1, t36, t33.1.1.1, ()) (fun y q => True ∧ True ∧ (t33.1.2.1 = y.1) ∧ (k.2.1 = y.2.1) ∧ (k.2.2.1 = y.2.2.1) ∧ (t36 = y.2.2.2.1) ∧ (True ∧ True) ∧ ((t33.1.1.1 = y.2.2.2.2.1) ∧ True) ∧ q) (fun _ h => ⟨trivial, trivial, rfl, rfl, rfl, rfl, ⟨trivial, trivial⟩, ⟨rfl, trivial⟩, h⟩))
    )))
  ) (
    .exit (
    .ret (((k.2.2.2.2.1, ()), k.1, ()), (())))
  )
def an34 (x : X34) : Nat → Option Ann := fun i =>
  bif Nat.beq i 5 then some ⟨K34_r5, fun k => ⟨[(2, .one (.ptr 65584 0)), (4, .one (.ptr 65616 0)), (5, .one (.d .bool k.1)), (21, .one (.d (.sl (.pair (.sl (.pair (.int .i64) (.pair (.int .i64) (.pair (.int .i64) (.pair (.sl (.flt .f32)) .unit))))) .unit)) k.2.1)), (22, .one (.d (.int .i64) k.2.2.1)), (23, .one (.d (.int .i64) k.2.2.2.1))], [(65584, .box [.nilsl]), (65616, .box [(.d (.sl (.pair (.int .i64) (.pair (.int .i64) (.pair (.int .i64) (.pair (.sl (.flt .f32)) .unit))))) k.2.2.2.2.1)])]⟩, []⟩ else
  none
noncomputable def tr34 (p43 : X43 → List Prop) (f43 : X43 → W43) (p64 : X64 → List Prop) (f64 : X64 → W64) (p65 : X65 → List Prop) (f65 : X65 → W65) (x : X34) : VT W34 :=
  let t9 := (x.1.length : Int)
  .pre (p43 (t9, (1 : Int), (16 : Int), ())) (
  let t10 := f43 (t9, (1 : Int), (16 : Int), ())
  let t11 := !t10.1.1
  .ite t11 (
    .ret ((([], ()), false, ()), (()))
  ) (
    .step (0 ≤ (0 : Int)) (
    .step ((0 : Int) < x.1.length) (
    let t15 := x.1.getD (0 : Int).toNat (([], ()) : ((List (Int × Int × Int × List Nat × Unit)) × Unit))
    .pre (p64 ((t15.1, ()), ())) (
    let t17 := f64 ((t15.1, ()), ())
    .step (0 ≤ (1 : Int)) (
    .step ((1 : Int) ≤ (x.1.length : Int)) (
    .step ((x.1.length : Int) ≤ x.1.length) (
    let t21 := (x.1.take ((x.1.length : Int)).toNat).drop ((1 : Int)).toNat
    let t22 := (t21.length : Int)
    .loop (t17.1.2.1, t21, t22, (0 : Int), t17.1.1.1, ()) (fun y q => True ∧ True ∧ (t17.1.2.1 = y.1) ∧ (t21 = y.2.1) ∧ (t22 = y.2.2.1) ∧ ((0 : Int) = y.2.2.2.1) ∧ (True ∧ True) ∧ ((t17.1.1.1 = y.2.2.2.2.1) ∧ True) ∧ q) (fun _ h => ⟨trivial, trivial, rfl, rfl, rfl, rfl, ⟨trivial, trivial⟩, ⟨rfl, trivial⟩, h⟩) ((([], ()), false, ()), (())) (lp34_1 p43 f43 p64 f64 p65 f65 x)))))))
  ))
noncomputable def pp34 (x : X34) : List Prop := [(tr34 pp43 ff43 pp64 ff64 pp65 ff65 x).U]
noncomputable def ff34 (x : X34) : W34 := (tr34 pp43 ff43 pp64 ff64 pp65 ff65 x).W
noncomputable def s34 : FSpec := ⟨P34, R34, pp34, ff34⟩
def E34 (p43 : X43 → List Prop) (f43 : X43 → W43) (p64 : X64 → List Prop) (f64 : X64 → W64) (p65 : X65 → List Prop) (f65 : X65 → W65) : Env := fun f => get1 [(43, ⟨P43, R43, p43, f43⟩), (64, ⟨P64, R64, p64, f64⟩), (65, ⟨P65, R65, p65, f65⟩)] f
set_option maxRecDepth 100000 in
theorem e34 (p43 : X43 → List Prop) (f43 : X43 → W43) (p64 : X64 → List Prop) (f64 : X64 → W64) (p65 : X65 → List Prop) (f65 : X65 → W65) (x : X34) (Q : RsT R34 → OsT P34 → Prop) : evFun TT (E34 p43 f43 p64 f64 p65 f65) Try.f34.ntmps (an34 x) (bodyOf Try.f34) Try.f34.results.toList P34 R34 x Q = (tr34 p43 f43 p64 f64 p65 f65 x).V (fun w => Q w.1 w.2) := by kernel_rfl
set_option maxRecDepth 100000 in
theorem ok34 : EnvOK Try.prog (E34 pp43 ff43 pp64 ff64 pp65 ff65) := envOK_of (by
  intro p hp
  simp only [List.mem_cons, List.not_mem_nil, or_false] at hp
  rcases hp with rfl | rfl | rfl
  · exact snd43
  · exact snd64
  · exact snd65)
theorem b34 (x : X34) (h : (tr34 pp43 ff43 pp64 ff64 pp65 ff65 x).U) : Holds (evFun TT (E34 pp43 ff43 pp64 ff64 pp65 ff65) Try.f34.ntmps (an34 x) (bodyOf Try.f34) Try.f34.results.toList P34 R34 x (fun r o => (r, o) = (tr34 pp43 ff43 pp64 ff64 pp65 ff65 x).W)) := by
  constructor; rw [e34]; exact VT.sound _ h rfl
set_option maxRecDepth 100000 in
theorem snd34 : Sound Try.prog 34 s34 := sound_h (fs := s34) tt_ok mixed ok34 Try.func34 rfl (by kernel_rfl) (ann := an34) fun x h => b34 x (h _ (List.mem_singleton.2 rfl))
end Go.Proofs.Ytmlolnaannoifaa

/- A function of the program as a plain function. Written by wip/gen/gen.py. -/
namespace Go.Proofs.Ytmlolnaannoifaa

/- 10 loop.example/g01193/impl.ShapeAt -/
abbrev P10 : List PK := [.st (.pair (.sl (.pair .str (.pair (.sl (.pair (.int .i64) (.pair (.int .i64) (.pair (.int .i64) (.pair (.sl (.flt .f32)) .unit))))) (.pair (.sl (.pair (.int .i64) (.pair (.flt .f32) (.pair (.flt .f32) (.pair (.flt .f32) .unit))))) .unit)))) .unit), .val (.int .i64)]
abbrev R10 : List RK := [.st (.pair (.sl (.pair (.int .i64) (.pair (.int .i64) (.pair (.int .i64) (.pair (.sl (.flt .f32)) .unit))))) .unit), .one .bool]
abbrev X10 : Type := ((List (ByteArray × (List (Int × Int × Int × List Nat × Unit)) × (List (Int × Nat × Nat × Nat × Unit)) × Unit)) × Unit) × Int × Unit
abbrev W10 : Type := (((List (Int × Int × Int × List Nat × Unit)) × Unit) × Bool × Unit) × Unit
abbrev K10_r5 : Type := Int × Int × (List ((List (Int × Int × Int × List Nat × Unit)) × Unit)) × Unit
noncomputable def lp10_1 (p11 : X11 → List Prop) (f11 : X11 → W11) (p30 : X30 → List Prop) (f30 : X30 → W30) (p31 : X31 → List Prop) (f31 : X31 → W31) (p32 : X32 → List Prop) (f32 : X32 → W32) (p33 : X33 → List Prop) (f33 : X33 → W33) (p34 : X34 → List Prop) (f34 : X34 → W34) (x : X10) (k : K10_r5) : VT (K10_r5 ⊕ W10) :=
  let t32 := decide (k.2.1 < k.1)
  .ite t32 (
    .step (0 ≤ k.2.1) (
    .step (k.2.1 < x.1.1.length) (
    let t33 := x.1.1.getD k.2.1.toNat ((ByteArray.empty, [], [], ()) : (ByteArray × (List (Int × Int × Int × List Nat × Unit)) × (List (Int × Nat × Nat × Nat × Unit)) × Unit))
    .pre (p32 ((t33.1, t33.2.1, t33.2.2.1, ()), x.2.1, ())) (
    let t37 := f32 ((t33.1, t33.2.1, t33.2.2.1, ()), x.2.1, ())
    .pre (p31 ((t37.1.1.1, t37.1.1.2.1, t37.1.1.2.2.1, ()), ())) (
    let t38 := f31 ((t37.1.1.1, t37.1.1.2.1, t37.1.1.2.2.1, ()), ())
    .pre (p33 ((9 : Int), (t33.2.1, ()), (0 : Int), [t38.1.1.1, t38.1.1.2.1, t38.1.1.2.2.1], ())) (
    let t43 := f33 ((9 : Int), (t33.2.1, ()), (0 : Int), [t38.1.1.1, t38.1.1.2.1, t38.1.1.2.2.1], ())
    let t47 := !t43.1.2.1
    .ite t47 (
      .exit (
      .ret ((([], ()), false, ()), (())))
    ) (
      let t51 := [(t43.1.1.1, ())]
      .step (k.2.2.1.length = k.2.2.1.length) (
      .step (k.2.2.1.length + t51.length ≤ 1099511627776) (
      let t52 := k.2.2.1 ++ t51
      let t53 := IntKind.wrap .i64 (k.2.1 + (1 : Int))
      .next (k.1, t53, t52, ()) (fun y q => (x.2.1 = x.2.1) ∧ True ∧ (t52.length = y.2.2.1.length) ∧ (x.1.1 = x.1.1) ∧ (k.1 = y.1) ∧ (t53 = y.2.1) ∧ (t52 = y.2.2.1) ∧ (True ∧ True) ∧ q) (fun _ h => ⟨rfl, trivial, rfl, rfl, rfl, rfl, rfl, ⟨trivial, trivial⟩, h⟩)))
    ))))))
  ) (
    .exit (
    .step (k.2.2.1.length = k.2.2.1.length) (
    .pre (p34 (k.2.2.1, ())) (
    let t55 := f34 (k.2.2.1, ())
    .ret (((t55.1.1.1, ()), t55.1.2.1, ()), (())))))
  )
def an10 (x : X10) : Nat → Option Ann := fun i =>
  bif Nat.beq i 5 then some ⟨K10_r5, fun k => ⟨[(1, .one (.d (.int .i64) x.2.1)), (4, .one (.ptr 65616 0)), (6, .one (.osl (.pair (.sl (.pair (.int .i64) (.pair (.int .i64) (.pair (.int .i64) (.pair (.sl (.flt .f32)) .unit))))) .unit) 32768 k.2.2.1.length)), (29, .one (.d (.sl (.pair .str (.pair (.sl (.pair (.int .i64) (.pair (.int .i64) (.pair (.int .i64) (.pair (.sl (.flt .f32)) .unit))))) (.pair (.sl (.pair (.int .i64) (.pair (.flt .f32) (.pair (.flt .f32) (.pair (.flt .f32) .unit))))) .unit)))) x.1.1)), (30, .one (.d (.int .i64) k.1)), (31, .one (.d (.int .i64) k.2.1))], [(32768, .vec (.pair (.sl (.pair (.int .i64) (.pair (.int .i64) (.pair (.int .i64) (.pair (.sl (.flt .f32)) .unit))))) .unit) k.2.2.1), (65616, .box [.nilsl])]⟩, [.slot 6 (.pair (.sl (.pair (.int .i64) (.pair (.int .i64) (.pair (.int .i64) (.pair (.sl (.flt .f32)) .unit))))) .unit) 32768]⟩ else
  none
noncomputable def tr10 (p11 : X11 → List Prop) (f11 : X11 → W11) (p30 : X30 → List Prop) (f30 : X30 → W30) (p31 : X31 → List Prop) (f31 : X31 → W31) (p32 : X32 → List Prop) (f32 : X32 → W32) (p33 : X33 → List Prop) (f33 : X33 → W33) (p34 : X34 → List Prop) (f34 : X34 → W34) (x : X10) : VT W10 :=
  .pre (p11 ((x.1.1, ()), ())) (
  let t13 := f11 ((x.1.1, ()), ())
  let t14 := !t13.1.1
  .ite t14 (
    .ret ((([], ()), false, ()), (()))
  ) (
    .pre (p30 (x.2.1, ())) (
    let t17 := f30 (x.2.1, ())
    let t18 := !t17.1.1
    .ite t18 (
      .ret ((([], ()), false, ()), (()))
    ) (
      let t23 := (x.1.1.length : Int)
      let t24 := decide (t23 = (0 : Int))
      .ite t24 (
        .ret ((([], ()), false, ()), (()))
      ) (
        let t30 := (x.1.1.length : Int)
        .loop (t30, (0 : Int), [], ()) (fun y q => (x.2.1 = x.2.1) ∧ True ∧ (0 = y.2.2.1.length) ∧ (x.1.1 = x.1.1) ∧ (t30 = y.1) ∧ ((0 : Int) = y.2.1) ∧ ([] = y.2.2.1) ∧ (True ∧ True) ∧ q) (fun _ h => ⟨rfl, trivial, rfl, rfl, rfl, rfl, rfl, ⟨trivial, trivial⟩, h⟩) ((([], ()), false, ()), (())) (lp10_1 p11 f11 p30 f30 p31 f31 p32 f32 p33 f33 p34 f34 x)
      )
    ))
  ))
noncomputable def pp10 (x : X10) : List Prop := [(tr10 pp11 ff11 pp30 ff30 pp31 ff31 pp32 ff32 pp33 ff33 pp34 ff34 x).U]
noncomputable def ff10 (x : X10) : W10 := (tr10 pp11 ff11 pp30 ff30 pp31 ff31 pp32 ff32 pp33 ff33 pp34 ff34 x).W
noncomputable def s10 : FSpec := ⟨P10, R10, pp10, ff10⟩
def E10 (p11 : X11 → List Prop) (f11 : X11 → W11) (p30 : X30 → List Prop) (f30 : X30 → W30) (p31 : X31 → List Prop) (f31 : X31 → W31) (p32 : X32 → List Prop) (f32 : X32 → W32) (p33 : X33 → List Prop) (f33 : X33 → W33) (p34 : X34 → List Prop) (f34 : X34 → W34) : Env := fun f => get1 [(11, ⟨P11, R11, p11, f11⟩), (30, ⟨P30, R30, p30, f30⟩), (31, ⟨P31, R31, p31, f31⟩), (32, ⟨P32, R32, p32, f32⟩), (33, ⟨P33, R33, p33, f33⟩), (34, ⟨P34, R34, p34, f34⟩)] f
set_option maxRecDepth 100000 in
theorem e10 (p11 : X11 → List Prop) (f11 : X11 → W11) (p30 : X30 → List Prop) (f30 : X30 → W30) (p31 : X31 → List Prop) (f31 : X31 → W31) (p32 : X32 → List Prop) (f32 : X32 → W32) (p33 : X33 → List Prop) (f33 : X33 → W33) (p34 : X34 → List Prop) (f34 : X34 → W34) (x : X10) (Q : RsT R10 → OsT P10 → Prop) : evFun TT (E10 p11 f11 p30 f30 p31 f31 p32 f32 p33 f33 p34 f34) Try.f10.ntmps (an10 x) (bodyOf Try.f10) Try.f10.results.toList P10 R10 x Q = (tr10 p11 f11 p30 f30 p31 f31 p32 f32 p33 f33 p34 f34 x).V (fun w => Q w.1 w.2) := by kernel_rfl
set_option maxRecDepth 100000 in
theorem ok10 : EnvOK Try.prog (E10 pp11 ff11 pp30 ff30 pp31 ff31 pp32 ff32 pp33 ff33 pp34 ff34) := envOK_of (by
  intro p hp
  simp only [List.mem_cons, List.not_mem_nil, or_false] at hp
  rcases hp with rfl | rfl | rfl | rfl | rfl | rfl
  · exact snd11
  · exact snd30
  · exact snd31
  · exact snd32
  · exact snd33
  · exact snd34)
theorem b10 (x : X10) (h : (tr10 pp11 ff11 pp30 ff30 pp31 ff31 pp32 ff32 pp33 ff33 pp34 ff34 x).U) : Holds (evFun TT (E10 pp11 ff11 pp30 ff30 pp31 ff31 pp32 ff32 pp33 ff33 pp34 ff34) Try.f10.ntmps (an10 x) (bodyOf Try.f10) Try.f10.results.toList P10 R10 x (fun r o => (r, o) = (tr10 pp11 ff11 pp30 ff30 pp31 ff31 pp32 ff32 pp33 ff33 pp34 ff34 x).W)) := by
  constructor; rw [e10]; exact VT.sound _ h rfl
set_option maxRecDepth 100000 in
theorem snd10 : Sound Try.prog 10 s10 := sound_h (fs := s10) tt_ok mixed ok10 Try.func10 rfl (by kernel_rfl) (ann := an10) fun x h => b10 x (h _ (List.mem_singleton.2 rfl))
end Go.Proofs.Ytmlolnaannoifaa

/- A function of the program as a plain function. Written by wip/gen/gen.py. -/
namespace Go.Proofs.Ytmlolnaannoifaa

/- 145 loop.example/g01193/impl.InnerOf -/
abbrev P145 : List PK := [.st (.pair (.flt .f32) (.pair (.flt .f32) (.pair (.flt .f32) .unit))), .st (.pair (.flt .f32) (.pair (.flt .f32) (.pair (.flt .f32) .unit)))]
abbrev R145 : List RK := [.one (.flt .f32)]
abbrev X145 : Type := (Nat × Nat × Nat × Unit) × (Nat × Nat × Nat × Unit) × Unit
abbrev W145 : Type := (Nat × Unit) × Unit
noncomputable def tr145 (x : X145) : VT W145 :=
  let t9 := fop .mul .f32 x.1.1 x.2.1.1
  let t14 := fop .mul .f32 x.1.2.1 x.2.1.2.1
  let t15 := fop .add .f32 t9 t14
  let t20 := fop .mul .f32 x.1.2.2.1 x.2.1.2.2.1
  let t21 := fop .add .f32 t15 t20
  .ret ((t21, ()), (()))
noncomputable def pp145 (x : X145) : List Prop := [(tr145 x).U]
noncomputable def ff145 (x : X145) : W145 := (tr145 x).W
noncomputable def s145 : FSpec := ⟨P145, R145, pp145, ff145⟩
def E145 : Env := fun f => get1 [] f
set_option maxRecDepth 100000 in
theorem e145 (x : X145) (Q : RsT R145 → OsT P145 → Prop) : evFun TT (E145) Try.f145.ntmps (fun _ => none) (bodyOf Try.f145) Try.f145.results.toList P145 R145 x Q = (tr145 x).V (fun w => Q w.1 w.2) := by kernel_rfl
set_option maxRecDepth 100000 in
theorem ok145 : EnvOK Try.prog E145 := envOK_of (by intro p hp; simp at hp)
theorem b145 (x : X145) (h : (tr145 x).U) : Holds (evFun TT (E145) Try.f145.ntmps (fun _ => none) (bodyOf Try.f145) Try.f145.results.toList P145 R145 x (fun r o => (r, o) = (tr145 x).W)) := by
  constructor; rw [e145]; exact VT.sound _ h rfl
set_option maxRecDepth 100000 in
theorem snd145 : Sound Try.prog 145 s145 := sound_h (fs := s145) tt_ok mixed ok145 Try.func145 rfl (by kernel_rfl) (ann := fun _ _ => none) fun x h => b145 x (h _ (List.mem_singleton.2 rfl))
end Go.Proofs.Ytmlolnaannoifaa

/- A function of the program as a plain function. Written by wip/gen/gen.py. -/
namespace Go.Proofs.Ytmlolnaannoifaa

/- 193 math.sqrt -/
abbrev P193 : List PK := [.val (.flt .f64)]
abbrev R193 : List RK := [.one (.flt .f64)]
abbrev X193 : Type := Nat × Unit
abbrev W193 : Type := (Nat × Unit) × Unit
def q193 : Nat → Prop := fun _ => True
def g193 : Nat → Nat := fsqrt
def pp193 (x : X193) : List Prop := [q193 x.1]
def ff193 (x : X193) : W193 := ((g193 x.1, ()), ())
def s193 : FSpec := ⟨P193, R193, pp193, ff193⟩
set_option maxRecDepth 100000 in
theorem snd193 : Sound Try.prog 193 s193 := extern_sound (a := (.flt .f64)) (r := (.flt .f64)) (pre := q193) (p := g193) (e := Extern.MathSqrt.sqrt) Try.func193 rfl (by kernel_rfl) (by kernel_rfl) (by kernel_rfl) tr_flt rt_flt fun U w v x => ext_sqrt U w v x
end Go.Proofs.Ytmlolnaannoifaa

/- A function of the program as a plain function. Written by wip/gen/gen.py. -/
namespace Go.Proofs.Ytmlolnaannoifaa

/- 185 math.Sqrt -/
abbrev P185 : List PK := [.val (.flt .f64)]
abbrev R185 : List RK := [.one (.flt .f64)]
abbrev X185 : Type := Nat × Unit
abbrev W185 : Type := (Nat × Unit) × Unit
noncomputable def tr185 (p193 : X193 → List Prop) (f193 : X193 → W193) (x : X185) : VT W185 :=
  .pre (p193 (x.1, ())) (
  let t4 := f193 (x.1, ())
  .ret ((t4.1.1, ()), (())))
noncomputable def pp185 (x : X185) : List Prop := [(tr185 pp193 ff193 x).U]
noncomputable def ff185 (x : X185) : W185 := (tr185 pp193 ff193 x).W
noncomputable def s185 : FSpec := ⟨P185, R185, pp185, ff185⟩
def E185 (p193 : X193 → List Prop) (f193 : X193 → W193) : Env := fun f => get1 [(193, ⟨P193, R193, p193, f193⟩)] f
set_option maxRecDepth 100000 in
theorem e185 (p193 : X193 → List Prop) (f193 : X193 → W193) (x : X185) (Q : RsT R185 → OsT P185 → Prop) : evFun TT (E185 p193 f193) Try.f185.ntmps (fun _ => none) (bodyOf Try.f185) Try.f185.results.toList P185 R185 x Q = (tr185 p193 f193 x).V (fun w => Q w.1 w.2) := by kernel_rfl
set_option maxRecDepth 100000 in
theorem ok185 : EnvOK Try.prog (E185 pp193 ff193) := envOK_of (by
  intro p hp
  simp only [List.mem_cons, List.not_mem_nil, or_false] at hp
  rcases hp with rfl
  · exact snd193)
theorem b185 (x : X185) (h : (tr185 pp193 ff193 x).U) : Holds (evFun TT (E185 pp193 ff193) Try.f185.ntmps (fun _ => none) (bodyOf Try.f185) Try.f185.results.toList P185 R185 x (fun r o => (r, o) = (tr185 pp193 ff193 x).W)) := by
  constructor; rw [e185]; exact VT.sound _ h rfl
set_option maxRecDepth 100000 in
theorem snd185 : Sound Try.prog 185 s185 := sound_h (fs := s185) tt_ok mixed ok185 Try.func185 rfl (by kernel_rfl) (ann := fun _ _ => none) fun x h => b185 x (h _ (List.mem_singleton.2 rfl))
end Go.Proofs.Ytmlolnaannoifaa

/- A function of the program as a plain function. Written by wip/gen/gen.py. -/
namespace Go.Proofs.Ytmlolnaannoifaa

/- 175 loop.example/g01193/impl.RootNumber -/
abbrev P175 : List PK := [.val (.flt .f32)]
abbrev R175 : List RK := [.one (.flt .f32)]
abbrev X175 : Type := Nat × Unit
abbrev W175 : Type := (Nat × Unit) × Unit
noncomputable def tr175 (p185 : X185 → List Prop) (f185 : X185 → W185) (x : X175) : VT W175 :=
  .step (fcvOk .f32 .f64 x.1) (
  let t4 := fcv .f32 .f64 x.1
  .pre (p185 (t4, ())) (
  let t5 := f185 (t4, ())
  .step (fcvOk .f64 .f32 t5.1.1) (
  let t6 := fcv .f64 .f32 t5.1.1
  .ret ((t6, ()), (())))))
noncomputable def pp175 (x : X175) : List Prop := [(tr175 pp185 ff185 x).U]
noncomputable def ff175 (x : X175) : W175 := (tr175 pp185 ff185 x).W
noncomputable def s175 : FSpec := ⟨P175, R175, pp175, ff175⟩
def E175 (p185 : X185 → List Prop) (f185 : X185 → W185) : Env := fun f => get1 [(185, ⟨P185, R185, p185, f185⟩)] f
set_option maxRecDepth 100000 in
theorem e175 (p185 : X185 → List Prop) (f185 : X185 → W185) (x : X175) (Q : RsT R175 → OsT P175 → Prop) : evFun TT (E175 p185 f185) Try.f175.ntmps (fun _ => none) (bodyOf Try.f175) Try.f175.results.toList P175 R175 x Q = (tr175 p185 f185 x).V (fun w => Q w.1 w.2) := by kernel_rfl
set_option maxRecDepth 100000 in
theorem ok175 : EnvOK Try.prog (E175 pp185 ff185) := envOK_of (by
  intro p hp
  simp only [List.mem_cons, List.not_mem_nil, or_false] at hp
  rcases hp with rfl
  · exact snd185)
theorem b175 (x : X175) (h : (tr175 pp185 ff185 x).U) : Holds (evFun TT (E175 pp185 ff185) Try.f175.ntmps (fun _ => none) (bodyOf Try.f175) Try.f175.results.toList P175 R175 x (fun r o => (r, o) = (tr175 pp185 ff185 x).W)) := by
  constructor; rw [e175]; exact VT.sound _ h rfl
set_option maxRecDepth 100000 in
theorem snd175 : Sound Try.prog 175 s175 := sound_h (fs := s175) tt_ok mixed ok175 Try.func175 rfl (by kernel_rfl) (ann := fun _ _ => none) fun x h => b175 x (h _ (List.mem_singleton.2 rfl))
end Go.Proofs.Ytmlolnaannoifaa

/- A function of the program as a plain function. Written by wip/gen/gen.py. -/
namespace Go.Proofs.Ytmlolnaannoifaa

/- 140 loop.example/g01193/impl.LongOf -/
abbrev P140 : List PK := [.st (.pair (.flt .f32) (.pair (.flt .f32) (.pair (.flt .f32) .unit)))]
abbrev R140 : List RK := [.one (.flt .f32)]
abbrev X140 : Type := (Nat × Nat × Nat × Unit) × Unit
abbrev W140 : Type := (Nat × Unit) × Unit
noncomputable def tr140 (p145 : X145 → List Prop) (f145 : X145 → W145) (p175 : X175 → List Prop) (f175 : X175 → W175) (x : X140) : VT W140 :=
  .pre (p145 ((x.1.1, x.1.2.1, x.1.2.2.1, ()), (x.1.1, x.1.2.1, x.1.2.2.1, ()), ())) (
  let t5 := f145 ((x.1.1, x.1.2.1, x.1.2.2.1, ()), (x.1.1, x.1.2.1, x.1.2.2.1, ()), ())
  .pre (p175 (t5.1.1, ())) (
  let t6 := f175 (t5.1.1, ())
  .ret ((t6.1.1, ()), (()))))
noncomputable def pp140 (x : X140) : List Prop := [(tr140 pp145 ff145 pp175 ff175 x).U]
noncomputable def ff140 (x : X140) : W140 := (tr140 pp145 ff145 pp175 ff175 x).W
noncomputable def s140 : FSpec := ⟨P140, R140, pp140, ff140⟩
def E140 (p145 : X145 → List Prop) (f145 : X145 → W145) (p175 : X175 → List Prop) (f175 : X175 → W175) : Env := fun f => get1 [(145, ⟨P145, R145, p145, f145⟩), (175, ⟨P175, R175, p175, f175⟩)] f
set_option maxRecDepth 100000 in
theorem e140 (p145 : X145 → List Prop) (f145 : X145 → W145) (p175 : X175 → List Prop) (f175 : X175 → W175) (x : X140) (Q : RsT R140 → OsT P140 → Prop) : evFun TT (E140 p145 f145 p175 f175) Try.f140.ntmps (fun _ => none) (bodyOf Try.f140) Try.f140.results.toList P140 R140 x Q = (tr140 p145 f145 p175 f175 x).V (fun w => Q w.1 w.2) := by kernel_rfl
set_option maxRecDepth 100000 in
theorem ok140 : EnvOK Try.prog (E140 pp145 ff145 pp175 ff175) := envOK_of (by
  intro p hp
  simp only [List.mem_cons, List.not_mem_nil, or_false] at hp
  rcases hp with rfl | rfl
  · exact snd145
  · exact snd175)
theorem b140 (x : X140) (h : (tr140 pp145 ff145 pp175 ff175 x).U) : Holds (evFun TT (E140 pp145 ff145 pp175 ff175) Try.f140.ntmps (fun _ => none) (bodyOf Try.f140) Try.f140.results.toList P140 R140 x (fun r o => (r, o) = (tr140 pp145 ff145 pp175 ff175 x).W)) := by
  constructor; rw [e140]; exact VT.sound _ h rfl
set_option maxRecDepth 100000 in
theorem snd140 : Sound Try.prog 140 s140 := sound_h (fs := s140) tt_ok mixed ok140 Try.func140 rfl (by kernel_rfl) (ann := fun _ _ => none) fun x h => b140 x (h _ (List.mem_singleton.2 rfl))
end Go.Proofs.Ytmlolnaannoifaa

/- A function of the program as a plain function. Written by wip/gen/gen.py. -/
namespace Go.Proofs.Ytmlolnaannoifaa

/- 141 loop.example/g01193/impl.sizeOf -/
abbrev P141 : List PK := [.val (.flt .f32)]
abbrev R141 : List RK := [.one (.flt .f32)]
abbrev X141 : Type := Nat × Unit
abbrev W141 : Type := (Nat × Unit) × Unit
noncomputable def tr141 (x : X141) : VT W141 :=
  let t4 := flss .f32 x.1 (0 : Nat)
  .ite t4 (
    let t6 := fneg .f32 x.1
    .ret ((t6, ()), (()))
  ) (
    .ret ((x.1, ()), (()))
  )
noncomputable def pp141 (x : X141) : List Prop := [(tr141 x).U]
noncomputable def ff141 (x : X141) : W141 := (tr141 x).W
noncomputable def s141 : FSpec := ⟨P141, R141, pp141, ff141⟩
def E141 : Env := fun f => get1 [] f
set_option maxRecDepth 100000 in
theorem e141 (x : X141) (Q : RsT R141 → OsT P141 → Prop) : evFun TT (E141) Try.f141.ntmps (fun _ => none) (bodyOf Try.f141) Try.f141.results.toList P141 R141 x Q = (tr141 x).V (fun w => Q w.1 w.2) := by kernel_rfl
set_option maxRecDepth 100000 in
theorem ok141 : EnvOK Try.prog E141 := envOK_of (by intro p hp; simp at hp)
theorem b141 (x : X141) (h : (tr141 x).U) : Holds (evFun TT (E141) Try.f141.ntmps (fun _ => none) (bodyOf Try.f141) Try.f141.results.toList P141 R141 x (fun r o => (r, o) = (tr141 x).W)) := by
  constructor; rw [e141]; exact VT.sound _ h rfl
set_option maxRecDepth 100000 in
theorem snd141 : Sound Try.prog 141 s141 := sound_h (fs := s141) tt_ok mixed ok141 Try.func141 rfl (by kernel_rfl) (ann := fun _ _ => none) fun x h => b141 x (h _ (List.mem_singleton.2 rfl))
end Go.Proofs.Ytmlolnaannoifaa

/- A function of the program as a plain function. Written by wip/gen/gen.py. -/
namespace Go.Proofs.Ytmlolnaannoifaa

/- 142 loop.example/g01193/impl.greater -/
abbrev P142 : List PK := [.val (.flt .f32), .val (.flt .f32)]
abbrev R142 : List RK := [.one (.flt .f32)]
abbrev X142 : Type := Nat × Nat × Unit
abbrev W142 : Type := (Nat × Unit) × Unit
noncomputable def tr142 (x : X142) : VT W142 :=
  let t7 := flss .f32 x.1 x.2.1
  .ite t7 (
    .ret ((x.2.1, ()), (()))
  ) (
    .ret ((x.1, ()), (()))
  )
noncomputable def pp142 (x : X142) : List Prop := [(tr142 x).U]
noncomputable def ff142 (x : X142) : W142 := (tr142 x).W
noncomputable def s142 : FSpec := ⟨P142, R142, pp142, ff142⟩
def E142 : Env := fun f => get1 [] f
set_option maxRecDepth 100000 in
theorem e142 (x : X142) (Q : RsT R142 → OsT P142 → Prop) : evFun TT (E142) Try.f142.ntmps (fun _ => none) (bodyOf Try.f142) Try.f142.results.toList P142 R142 x Q = (tr142 x).V (fun w => Q w.1 w.2) := by kernel_rfl
set_option maxRecDepth 100000 in
theorem ok142 : EnvOK Try.prog E142 := envOK_of (by intro p hp; simp at hp)
theorem b142 (x : X142) (h : (tr142 x).U) : Holds (evFun TT (E142) Try.f142.ntmps (fun _ => none) (bodyOf Try.f142) Try.f142.results.toList P142 R142 x (fun r o => (r, o) = (tr142 x).W)) := by
  constructor; rw [e142]; exact VT.sound _ h rfl
set_option maxRecDepth 100000 in
theorem snd142 : Sound Try.prog 142 s142 := sound_h (fs := s142) tt_ok mixed ok142 Try.func142 rfl (by kernel_rfl) (ann := fun _ _ => none) fun x h => b142 x (h _ (List.mem_singleton.2 rfl))
end Go.Proofs.Ytmlolnaannoifaa

/- A function of the program as a plain function. Written by wip/gen/gen.py. -/
namespace Go.Proofs.Ytmlolnaannoifaa

/- 143 loop.example/g01193/impl.lesser -/
abbrev P143 : List PK := [.val (.flt .f32), .val (.flt .f32)]
abbrev R143 : List RK := [.one (.flt .f32)]
abbrev X143 : Type := Nat × Nat × Unit
abbrev W143 : Type := (Nat × Unit) × Unit
noncomputable def tr143 (x : X143) : VT W143 :=
  let t7 := flss .f32 x.2.1 x.1
  .ite t7 (
    .ret ((x.2.1, ()), (()))
  ) (
    .ret ((x.1, ()), (()))
  )
noncomputable def pp143 (x : X143) : List Prop := [(tr143 x).U]
noncomputable def ff143 (x : X143) : W143 := (tr143 x).W
noncomputable def s143 : FSpec := ⟨P143, R143, pp143, ff143⟩
def E143 : Env := fun f => get1 [] f
set_option maxRecDepth 100000 in
theorem e143 (x : X143) (Q : RsT R143 → OsT P143 → Prop) : evFun TT (E143) Try.f143.ntmps (fun _ => none) (bodyOf Try.f143) Try.f143.results.toList P143 R143 x Q = (tr143 x).V (fun w => Q w.1 w.2) := by kernel_rfl
set_option maxRecDepth 100000 in
theorem ok143 : EnvOK Try.prog E143 := envOK_of (by intro p hp; simp at hp)
theorem b143 (x : X143) (h : (tr143 x).U) : Holds (evFun TT (E143) Try.f143.ntmps (fun _ => none) (bodyOf Try.f143) Try.f143.results.toList P143 R143 x (fun r o => (r, o) = (tr143 x).W)) := by
  constructor; rw [e143]; exact VT.sound _ h rfl
set_option maxRecDepth 100000 in
theorem snd143 : Sound Try.prog 143 s143 := sound_h (fs := s143) tt_ok mixed ok143 Try.func143 rfl (by kernel_rfl) (ann := fun _ _ => none) fun x h => b143 x (h _ (List.mem_singleton.2 rfl))
end Go.Proofs.Ytmlolnaannoifaa

/- A function of the program as a plain function. Written by wip/gen/gen.py. -/
namespace Go.Proofs.Ytmlolnaannoifaa

/- 144 loop.example/g01193/impl.shortened -/
abbrev P144 : List PK := [.val (.flt .f32), .val (.flt .f32)]
abbrev R144 : List RK := [.one (.flt .f32)]
abbrev X144 : Type := Nat × Nat × Unit
abbrev W144 : Type := (Nat × Unit) × Unit
noncomputable def tr144 (p142 : X142 → List Prop) (f142 : X142 → W142) (p143 : X143 → List Prop) (f143 : X143 → W143) (x : X144) : VT W144 :=
  .pre (p142 ((0 : Nat), x.1, ())) (
  let t7 := f142 ((0 : Nat), x.1, ())
  .pre (p143 (t7.1.1, x.2.1, ())) (
  let t9 := f143 (t7.1.1, x.2.1, ())
  let t10 := fop .sub .f32 x.1 t9.1.1
  .ret ((t10, ()), (()))))
noncomputable def pp144 (x : X144) : List Prop := [(tr144 pp142 ff142 pp143 ff143 x).U]
noncomputable def ff144 (x : X144) : W144 := (tr144 pp142 ff142 pp143 ff143 x).W
noncomputable def s144 : FSpec := ⟨P144, R144, pp144, ff144⟩
def E144 (p142 : X142 → List Prop) (f142 : X142 → W142) (p143 : X143 → List Prop) (f143 : X143 → W143) : Env := fun f => get1 [(142, ⟨P142, R142, p142, f142⟩), (143, ⟨P143, R143, p143, f143⟩)] f
set_option maxRecDepth 100000 in
theorem e144 (p142 : X142 → List Prop) (f142 : X142 → W142) (p143 : X143 → List Prop) (f143 : X143 → W143) (x : X144) (Q : RsT R144 → OsT P144 → Prop) : evFun TT (E144 p142 f142 p143 f143) Try.f144.ntmps (fun _ => none) (bodyOf Try.f144) Try.f144.results.toList P144 R144 x Q = (tr144 p142 f142 p143 f143 x).V (fun w => Q w.1 w.2) := by kernel_rfl
set_option maxRecDepth 100000 in
theorem ok144 : EnvOK Try.prog (E144 pp142 ff142 pp143 ff143) := envOK_of (by
  intro p hp
  simp only [List.mem_cons, List.not_mem_nil, or_false] at hp
  rcases hp with rfl | rfl
  · exact snd142
  · exact snd143)
theorem b144 (x : X144) (h : (tr144 pp142 ff142 pp143 ff143 x).U) : Holds (evFun TT (E144 pp142 ff142 pp143 ff143) Try.f144.ntmps (fun _ => none) (bodyOf Try.f144) Try.f144.results.toList P144 R144 x (fun r o => (r, o) = (tr144 pp142 ff142 pp143 ff143 x).W)) := by
  constructor; rw [e144]; exact VT.sound _ h rfl
set_option maxRecDepth 100000 in
theorem snd144 : Sound Try.prog 144 s144 := sound_h (fs := s144) tt_ok mixed ok144 Try.func144 rfl (by kernel_rfl) (ann := fun _ _ => none) fun x h => b144 x (h _ (List.mem_singleton.2 rfl))
end Go.Proofs.Ytmlolnaannoifaa

/- A function of the program as a plain function. Written by wip/gen/gen.py. -/
namespace Go.Proofs.Ytmlolnaannoifaa

/- 108 (*loop.example/g01193/impl.Node).leaf -/
abbrev P108 : List PK := [.ro (.pair (.int .i64) (.pair (.int .i64) (.pair (.int .i64) (.pair (.sl (.flt .f32)) .unit)))), .st (.pair (.flt .f32) (.pair (.flt .f32) (.pair (.flt .f32) .unit)))]
abbrev R108 : List RK := [.one (.flt .f32)]
abbrev X108 : Type := (Int × Int × Int × List Nat × Unit) × (Nat × Nat × Nat × Unit) × Unit
abbrev W108 : Type := (Nat × Unit) × Unit
noncomputable def tr108 (p140 : X140 → List Prop) (f140 : X140 → W140) (p141 : X141 → List Prop) (f141 : X141 → W141) (p142 : X142 → List Prop) (f142 : X142 → W142) (p143 : X143 → List Prop) (f143 : X143 → W143) (p144 : X144 → List Prop) (f144 : X144 → W144) (p145 : X145 → List Prop) (f145 : X145 → W145) (x : X108) : VT W108 :=
  let t18 := decide (x.1.1 = (0 : Int))
  .ite t18 (
    .pre (p140 ((x.2.1.1, x.2.1.2.1, x.2.1.2.2.1, ()), ())) (
    let t20 := f140 ((x.2.1.1, x.2.1.2.1, x.2.1.2.2.1, ()), ())
    .step (0 ≤ (0 : Int)) (
    .step ((0 : Int) < x.1.2.2.2.1.length) (
    let t22 := x.1.2.2.2.1.getD (0 : Int).toNat (0 : Nat)
    let t24 := fop .sub .f32 t20.1.1 t22
    .ret ((t24, ()), (())))))
  ) (
    let t26 := decide (x.1.1 = (1 : Int))
    .ite t26 (
      .pre (p141 (x.2.1.1, ())) (
      let t29 := f141 (x.2.1.1, ())
      .step (0 ≤ (0 : Int)) (
      .step ((0 : Int) < x.1.2.2.2.1.length) (
      let t31 := x.1.2.2.2.1.getD (0 : Int).toNat (0 : Nat)
      let t33 := fop .sub .f32 t29.1.1 t31
      .pre (p141 (x.2.1.2.1, ())) (
      let t36 := f141 (x.2.1.2.1, ())
      .step (0 ≤ (1 : Int)) (
      .step ((1 : Int) < x.1.2.2.2.1.length) (
      let t38 := x.1.2.2.2.1.getD (1 : Int).toNat (0 : Nat)
      let t40 := fop .sub .f32 t36.1.1 t38
      .pre (p141 (x.2.1.2.2.1, ())) (
      let t43 := f141 (x.2.1.2.2.1, ())
      .step (0 ≤ (2 : Int)) (
      .step ((2 : Int) < x.1.2.2.2.1.length) (
      let t45 := x.1.2.2.2.1.getD (2 : Int).toNat (0 : Nat)
      let t47 := fop .sub .f32 t43.1.1 t45
      .pre (p142 ((0 : Nat), t33, ())) (
      let t49 := f142 ((0 : Nat), t33, ())
      .pre (p142 ((0 : Nat), t40, ())) (
      let t51 := f142 ((0 : Nat), t40, ())
      .pre (p142 ((0 : Nat), t47, ())) (
      let t53 := f142 ((0 : Nat), t47, ())
      .pre (p140 ((t49.1.1, t51.1.1, t53.1.1, ()), ())) (
      let t55 := f140 ((t49.1.1, t51.1.1, t53.1.1, ()), ())
      .pre (p142 (t33, t40, ())) (
      let t58 := f142 (t33, t40, ())
      .pre (p142 (t58.1.1, t47, ())) (
      let t60 := f142 (t58.1.1, t47, ())
      .pre (p143 ((0 : Nat), t60.1.1, ())) (
      let t61 := f143 ((0 : Nat), t60.1.1, ())
      let t62 := fop .add .f32 t55.1.1 t61.1.1
      .ret ((t62, ()), (()))))))))))))))))))
    ) (
      let t64 := decide (x.1.1 = (2 : Int))
      .ite t64 (
        .step (0 ≤ (0 : Int)) (
        .step ((0 : Int) < x.1.2.2.2.1.length) (
        let t70 := x.1.2.2.2.1.getD (0 : Int).toNat (0 : Nat)
        .pre (p144 (x.2.1.2.1, t70, ())) (
        let t72 := f144 (x.2.1.2.1, t70, ())
        .pre (p140 ((x.2.1.1, t72.1.1, x.2.1.2.2.1, ()), ())) (
        let t76 := f140 ((x.2.1.1, t72.1.1, x.2.1.2.2.1, ()), ())
        .step (0 ≤ (1 : Int)) (
        .step ((1 : Int) < x.1.2.2.2.1.length) (
        let t78 := x.1.2.2.2.1.getD (1 : Int).toNat (0 : Nat)
        let t80 := fop .sub .f32 t76.1.1 t78
        .ret ((t80, ()), (()))))))))
      ) (
        let t82 := decide (x.1.1 = (3 : Int))
        .ite t82 (
          .pre (p140 ((x.2.1.1, (0 : Nat), x.2.1.2.2.1, ()), ())) (
          let t88 := f140 ((x.2.1.1, (0 : Nat), x.2.1.2.2.1, ()), ())
          .step (0 ≤ (0 : Int)) (
          .step ((0 : Int) < x.1.2.2.2.1.length) (
          let t90 := x.1.2.2.2.1.getD (0 : Int).toNat (0 : Nat)
          let t92 := fop .sub .f32 t88.1.1 t90
          .pre (p140 ((t92, x.2.1.2.1, (0 : Nat), ()), ())) (
          let t96 := f140 ((t92, x.2.1.2.1, (0 : Nat), ()), ())
          .step (0 ≤ (1 : Int)) (
          .step ((1 : Int) < x.1.2.2.2.1.length) (
          let t98 := x.1.2.2.2.1.getD (1 : Int).toNat (0 : Nat)
          let t100 := fop .sub .f32 t96.1.1 t98
          .ret ((t100, ()), (()))))))))
        ) (
          .step (0 ≤ (0 : Int)) (
          .step ((0 : Int) < x.1.2.2.2.1.length) (
          let t103 := x.1.2.2.2.1.getD (0 : Int).toNat (0 : Nat)
          .step (0 ≤ (1 : Int)) (
          .step ((1 : Int) < x.1.2.2.2.1.length) (
          let t106 := x.1.2.2.2.1.getD (1 : Int).toNat (0 : Nat)
          .step (0 ≤ (2 : Int)) (
          .step ((2 : Int) < x.1.2.2.2.1.length) (
          let t109 := x.1.2.2.2.1.getD (2 : Int).toNat (0 : Nat)
          .pre (p145 ((x.2.1.1, x.2.1.2.1, x.2.1.2.2.1, ()), (t103, t106, t109, ()), ())) (
          let t112 := f145 ((x.2.1.1, x.2.1.2.1, x.2.1.2.2.1, ()), (t103, t106, t109, ()), ())
          .step (0 ≤ (3 : Int)) (
          .step ((3 : Int) < x.1.2.2.2.1.length) (
          let t114 := x.1.2.2.2.1.getD (3 : Int).toNat (0 : Nat)
          let t116 := fop .sub .f32 t112.1.1 t114
          .ret ((t116, ()), (())))))))))))
        )
      )
    )
  )
noncomputable def pp108 (x : X108) : List Prop := [(tr108 pp140 ff140 pp141 ff141 pp142 ff142 pp143 ff143 pp144 ff144 pp145 ff145 x).U]
noncomputable def ff108 (x : X108) : W108 := (tr108 pp140 ff140 pp141 ff141 pp142 ff142 pp143 ff143 pp144 ff144 pp145 ff145 x).W
noncomputable def s108 : FSpec := ⟨P108, R108, pp108, ff108⟩
def E108 (p140 : X140 → List Prop) (f140 : X140 → W140) (p141 : X141 → List Prop) (f141 : X141 → W141) (p142 : X142 → List Prop) (f142 : X142 → W142) (p143 : X143 → List Prop) (f143 : X143 → W143) (p144 : X144 → List Prop) (f144 : X144 → W144) (p145 : X145 → List Prop) (f145 : X145 → W145) : Env := fun f => get1 [(140, ⟨P140, R140, p140, f140⟩), (141, ⟨P141, R141, p141, f141⟩), (142, ⟨P142, R142, p142, f142⟩), (143, ⟨P143, R143, p143, f143⟩), (144, ⟨P144, R144, p144, f144⟩), (145, ⟨P145, R145, p145, f145⟩)] f
set_option maxRecDepth 100000 in
theorem e108 (p140 : X140 → List Prop) (f140 : X140 → W140) (p141 : X141 → List Prop) (f141 : X141 → W141) (p142 : X142 → List Prop) (f142 : X142 → W142) (p143 : X143 → List Prop) (f143 : X143 → W143) (p144 : X144 → List Prop) (f144 : X144 → W144) (p145 : X145 → List Prop) (f145 : X145 → W145) (x : X108) (Q : RsT R108 → OsT P108 → Prop) : evFun TT (E108 p140 f140 p141 f141 p142 f142 p143 f143 p144 f144 p145 f145) Try.f108.ntmps (fun _ => none) (bodyOf Try.f108) Try.f108.results.toList P108 R108 x Q = (tr108 p140 f140 p141 f141 p142 f142 p143 f143 p144 f144 p145 f145 x).V (fun w => Q w.1 w.2) := by kernel_rfl
set_option maxRecDepth 100000 in
theorem ok108 : EnvOK Try.prog (E108 pp140 ff140 pp141 ff141 pp142 ff142 pp143 ff143 pp144 ff144 pp145 ff145) := envOK_of (by
  intro p hp
  simp only [List.mem_cons, List.not_mem_nil, or_false] at hp
  rcases hp with rfl | rfl | rfl | rfl | rfl | rfl
  · exact snd140
  · exact snd141
  · exact snd142
  · exact snd143
  · exact snd144
  · exact snd145)
theorem b108 (x : X108) (h : (tr108 pp140 ff140 pp141 ff141 pp142 ff142 pp143 ff143 pp144 ff144 pp145 ff145 x).U) : Holds (evFun TT (E108 pp140 ff140 pp141 ff141 pp142 ff142 pp143 ff143 pp144 ff144 pp145 ff145) Try.f108.ntmps (fun _ => none) (bodyOf Try.f108) Try.f108.results.toList P108 R108 x (fun r o => (r, o) = (tr108 pp140 ff140 pp141 ff141 pp142 ff142 pp143 ff143 pp144 ff144 pp145 ff145 x).W)) := by
  constructor; rw [e108]; exact VT.sound _ h rfl
set_option maxRecDepth 100000 in
theorem snd108 : Sound Try.prog 108 s108 := sound_h (fs := s108) tt_ok mixed ok108 Try.func108 rfl (by kernel_rfl) (ann := fun _ _ => none) fun x h => b108 x (h _ (List.mem_singleton.2 rfl))
end Go.Proofs.Ytmlolnaannoifaa

/- A function of the program as a plain function. Written by wip/gen/gen.py. -/
namespace Go.Proofs.Ytmlolnaannoifaa

/- 146 loop.example/g01193/impl.bulge -/
abbrev P146 : List PK := [.val (.flt .f32), .val (.flt .f32)]
abbrev R146 : List RK := [.one (.flt .f32)]
abbrev X146 : Type := Nat × Nat × Unit
abbrev W146 : Type := (Nat × Unit) × Unit
noncomputable def tr146 (x : X146) : VT W146 :=
  let t6 := flss .f32 (0 : Nat) x.1
  .ite t6 (
    let t9 := fop .mul .f32 x.1 x.1
    let t11 := fop .mul .f32 (1082130432 : Nat) x.2.1
    let t12 := fop .quo .f32 t9 t11
    .ret ((t12, ()), (()))
  ) (
    .ret (((0 : Nat), ()), (()))
  )
noncomputable def pp146 (x : X146) : List Prop := [(tr146 x).U]
noncomputable def ff146 (x : X146) : W146 := (tr146 x).W
noncomputable def s146 : FSpec := ⟨P146, R146, pp146, ff146⟩
def E146 : Env := fun f => get1 [] f
set_option maxRecDepth 100000 in
theorem e146 (x : X146) (Q : RsT R146 → OsT P146 → Prop) : evFun TT (E146) Try.f146.ntmps (fun _ => none) (bodyOf Try.f146) Try.f146.results.toList P146 R146 x Q = (tr146 x).V (fun w => Q w.1 w.2) := by kernel_rfl
set_option maxRecDepth 100000 in
theorem ok146 : EnvOK Try.prog E146 := envOK_of (by intro p hp; simp at hp)
theorem b146 (x : X146) (h : (tr146 x).U) : Holds (evFun TT (E146) Try.f146.ntmps (fun _ => none) (bodyOf Try.f146) Try.f146.results.toList P146 R146 x (fun r o => (r, o) = (tr146 x).W)) := by
  constructor; rw [e146]; exact VT.sound _ h rfl
set_option maxRecDepth 100000 in
theorem snd146 : Sound Try.prog 146 s146 := sound_h (fs := s146) tt_ok mixed ok146 Try.func146 rfl (by kernel_rfl) (ann := fun _ _ => none) fun x h => b146 x (h _ (List.mem_singleton.2 rfl))
end Go.Proofs.Ytmlolnaannoifaa

/- A function of the program as a plain function. Written by wip/gen/gen.py. -/
namespace Go.Proofs.Ytmlolnaannoifaa

/- 109 (*loop.example/g01193/impl.Node).mix -/
abbrev P109 : List PK := [.ro (.pair (.int .i64) (.pair (.int .i64) (.pair (.int .i64) (.pair (.sl (.flt .f32)) .unit)))), .val (.flt .f32), .val (.flt .f32)]
abbrev R109 : List RK := [.one (.flt .f32)]
abbrev X109 : Type := (Int × Int × Int × List Nat × Unit) × Nat × Nat × Unit
abbrev W109 : Type := (Nat × Unit) × Unit
noncomputable def tr109 (p141 : X141 → List Prop) (f141 : X141 → W141) (p142 : X142 → List Prop) (f142 : X142 → W142) (p143 : X143 → List Prop) (f143 : X143 → W143) (p146 : X146 → List Prop) (f146 : X146 → W146) (x : X109) : VT W109 :=
  let t13 := decide (x.1.1 = (5 : Int))
  .ite t13 (
    .pre (p143 (x.2.1, x.2.2.1, ())) (
    let t16 := f143 (x.2.1, x.2.2.1, ())
    .ret ((t16.1.1, ()), (())))
  ) (
    let t18 := decide (x.1.1 = (6 : Int))
    .ite t18 (
      .pre (p142 (x.2.1, x.2.2.1, ())) (
      let t21 := f142 (x.2.1, x.2.2.1, ())
      .ret ((t21.1.1, ()), (())))
    ) (
      let t23 := decide (x.1.1 = (7 : Int))
      .ite t23 (
        let t26 := fneg .f32 x.2.2.1
        .pre (p142 (x.2.1, t26, ())) (
        let t27 := f142 (x.2.1, t26, ())
        .ret ((t27.1.1, ()), (())))
      ) (
        let t29 := decide (x.1.1 = (8 : Int))
        .ite t29 (
          .step (0 ≤ (0 : Int)) (
          .step ((0 : Int) < x.1.2.2.2.1.length) (
          let t34 := x.1.2.2.2.1.getD (0 : Int).toNat (0 : Nat)
          let t38 := fop .sub .f32 x.2.1 x.2.2.1
          .pre (p141 (t38, ())) (
          let t39 := f141 (t38, ())
          let t40 := fop .sub .f32 t34 t39.1.1
          let t42 := flss .f32 (0 : Nat) t40
          .ite t42 (
            .pre (p143 (x.2.1, x.2.2.1, ())) (
            let t45 := f143 (x.2.1, x.2.2.1, ())
            .step (0 ≤ (0 : Int)) (
            .step ((0 : Int) < x.1.2.2.2.1.length) (
            let t51 := x.1.2.2.2.1.getD (0 : Int).toNat (0 : Nat)
            .pre (p146 (t40, t51, ())) (
            let t53 := f146 (t40, t51, ())
            let t54 := fop .sub .f32 t45.1.1 t53.1.1
            .ret ((t54, ()), (()))))))
          ) (
            .pre (p143 (x.2.1, x.2.2.1, ())) (
            let t57 := f143 (x.2.1, x.2.2.1, ())
            .ret ((t57.1.1, ()), (())))
          ))))
        ) (
          let t59 := decide (x.1.1 = (10 : Int))
          .ite t59 (
            .step (0 ≤ (0 : Int)) (
            .step ((0 : Int) < x.1.2.2.2.1.length) (
            let t65 := x.1.2.2.2.1.getD (0 : Int).toNat (0 : Nat)
            let t67 := fop .mul .f32 x.2.1 t65
            .ret ((t67, ()), (()))))
          ) (
            let t69 := decide (x.1.1 = (15 : Int))
            .ite t69 (
              .step (0 ≤ (0 : Int)) (
              .step ((0 : Int) < x.1.2.2.2.1.length) (
              let t75 := x.1.2.2.2.1.getD (0 : Int).toNat (0 : Nat)
              let t77 := fop .sub .f32 x.2.1 t75
              .ret ((t77, ()), (()))))
            ) (
              let t79 := decide (x.1.1 = (16 : Int))
              .ite t79 (
                .pre (p141 (x.2.1, ())) (
                let t81 := f141 (x.2.1, ())
                .step (0 ≤ (0 : Int)) (
                .step ((0 : Int) < x.1.2.2.2.1.length) (
                let t86 := x.1.2.2.2.1.getD (0 : Int).toNat (0 : Nat)
                let t88 := fop .sub .f32 t81.1.1 t86
                .ret ((t88, ()), (())))))
              ) (
                .ret ((x.2.1, ()), (()))
              )
            )
          )
        )
      )
    )
  )
noncomputable def pp109 (x : X109) : List Prop := [(tr109 pp141 ff141 pp142 ff142 pp143 ff143 pp146 ff146 x).U]
noncomputable def ff109 (x : X109) : W109 := (tr109 pp141 ff141 pp142 ff142 pp143 ff143 pp146 ff146 x).W
noncomputable def s109 : FSpec := ⟨P109, R109, pp109, ff109⟩
def E109 (p141 : X141 → List Prop) (f141 : X141 → W141) (p142 : X142 → List Prop) (f142 : X142 → W142) (p143 : X143 → List Prop) (f143 : X143 → W143) (p146 : X146 → List Prop) (f146 : X146 → W146) : Env := fun f => get1 [(141, ⟨P141, R141, p141, f141⟩), (142, ⟨P142, R142, p142, f142⟩), (143, ⟨P143, R143, p143, f143⟩), (146, ⟨P146, R146, p146, f146⟩)] f
set_option maxRecDepth 100000 in
theorem e109 (p141 : X141 → List Prop) (f141 : X141 → W141) (p142 : X142 → List Prop) (f142 : X142 → W142) (p143 : X143 → List Prop) (f143 : X143 → W143) (p146 : X146 → List Prop) (f146 : X146 → W146) (x : X109) (Q : RsT R109 → OsT P109 → Prop) : evFun TT (E109 p141 f141 p142 f142 p143 f143 p146 f146) Try.f109.ntmps (fun _ => none) (bodyOf Try.f109) Try.f109.results.toList P109 R109 x Q = (tr109 p141 f141 p142 f142 p143 f143 p146 f146 x).V (fun w => Q w.1 w.2) := by kernel_rfl
set_option maxRecDepth 100000 in
theorem ok109 : EnvOK Try.prog (E109 pp141 ff141 pp142 ff142 pp143 ff143 pp146 ff146) := envOK_of (by
  intro p hp
  simp only [List.mem_cons, List.not_mem_nil, or_false] at hp
  rcases hp with rfl | rfl | rfl | rfl
  · exact snd141
  · exact snd142
  · exact snd143
  · exact snd146)
theorem b109 (x : X109) (h : (tr109 pp141 ff141 pp142 ff142 pp143 ff143 pp146 ff146 x).U) : Holds (evFun TT (E109 pp141 ff141 pp142 ff142 pp143 ff143 pp146 ff146) Try.f109.ntmps (fun _ => none) (bodyOf Try.f109) Try.f109.results.toList P109 R109 x (fun r o => (r, o) = (tr109 pp141 ff141 pp142 ff142 pp143 ff143 pp146 ff146 x).W)) := by
  constructor; rw [e109]; exact VT.sound _ h rfl
set_option maxRecDepth 100000 in
theorem snd109 : Sound Try.prog 109 s109 := sound_h (fs := s109) tt_ok mixed ok109 Try.func109 rfl (by kernel_rfl) (ann := fun _ _ => none) fun x h => b109 x (h _ (List.mem_singleton.2 rfl))
end Go.Proofs.Ytmlolnaannoifaa

/- A function of the program as a plain function. Written by wip/gen/gen.py. -/
namespace Go.Proofs.Ytmlolnaannoifaa

/- 118 loop.example/g01193/impl.vectorOf -/
abbrev P118 : List PK := [.st (.pair (.flt .f32) (.pair (.flt .f32) (.pair (.flt .f32) .unit)))]
abbrev R118 : List RK := [.st (.pair (.flt .f32) (.pair (.flt .f32) (.pair (.flt .f32) .unit)))]
abbrev X118 : Type := (Nat × Nat × Nat × Unit) × Unit
abbrev W118 : Type := ((Nat × Nat × Nat × Unit) × Unit) × Unit
noncomputable def tr118 (x : X118) : VT W118 :=
  .step (0 ≤ (0 : Int)) (
  .step ((0 : Int) < 3) (
  .step ((0 : Int).toNat < 3) (
  .step (0 ≤ (1 : Int)) (
  .step ((1 : Int) < 3) (
  .step ((1 : Int).toNat < 3) (
  .step (0 ≤ (2 : Int)) (
  .step ((2 : Int) < 3) (
  .step ((2 : Int).toNat < 3) (
  .ret ((((([x.1.1, x.1.2.1, x.1.2.2.1]).getD ((0 : Int).toNat) (0 : Nat)), (([x.1.1, x.1.2.1, x.1.2.2.1]).getD ((1 : Int).toNat) (0 : Nat)), (([x.1.1, x.1.2.1, x.1.2.2.1]).getD ((2 : Int).toNat) (0 : Nat)), ()), ()), (())))))))))))
noncomputable def pp118 (x : X118) : List Prop := [(tr118 x).U]
noncomputable def ff118 (x : X118) : W118 := (tr118 x).W
noncomputable def s118 : FSpec := ⟨P118, R118, pp118, ff118⟩
def E118 : Env := fun f => get1 [] f
set_option maxRecDepth 100000 in
theorem e118 (x : X118) (Q : RsT R118 → OsT P118 → Prop) : evFun TT (E118) Try.f118.ntmps (fun _ => none) (bodyOf Try.f118) Try.f118.results.toList P118 R118 x Q = (tr118 x).V (fun w => Q w.1 w.2) := by kernel_rfl
set_option maxRecDepth 100000 in
theorem ok118 : EnvOK Try.prog E118 := envOK_of (by intro p hp; simp at hp)
theorem b118 (x : X118) (h : (tr118 x).U) : Holds (evFun TT (E118) Try.f118.ntmps (fun _ => none) (bodyOf Try.f118) Try.f118.results.toList P118 R118 x (fun r o => (r, o) = (tr118 x).W)) := by
  constructor; rw [e118]; exact VT.sound _ h rfl
set_option maxRecDepth 100000 in
theorem snd118 : Sound Try.prog 118 s118 := sound_h (fs := s118) tt_ok mixed ok118 Try.func118 rfl (by kernel_rfl) (ann := fun _ _ => none) fun x h => b118 x (h _ (List.mem_singleton.2 rfl))
end Go.Proofs.Ytmlolnaannoifaa

/- A function of the program as a plain function. Written by wip/gen/gen.py. -/
namespace Go.Proofs.Ytmlolnaannoifaa

/- 186 math.Float64frombits -/
abbrev P186 : List PK := [.val (.int .u64)]
abbrev R186 : List RK := [.one (.flt .f64)]
abbrev X186 : Type := Int × Unit
abbrev W186 : Type := (Nat × Unit) × Unit
def q186 : Int → Prop := fun _ => True
def g186 : Int → Nat := fun x => Int.toNat x
def pp186 (x : X186) : List Prop := [q186 x.1]
def ff186 (x : X186) : W186 := ((g186 x.1, ()), ())
def s186 : FSpec := ⟨P186, R186, pp186, ff186⟩
set_option maxRecDepth 100000 in
theorem snd186 : Sound Try.prog 186 s186 := extern_sound (a := (.int .u64)) (r := (.flt .f64)) (pre := q186) (p := g186) (e := Extern.MathFloatBits.float64frombits) Try.func186 rfl (by kernel_rfl) (by kernel_rfl) (by kernel_rfl) tr_int rt_flt fun U w v x => ext_from (fun _ => rfl) U w v x
end Go.Proofs.Ytmlolnaannoifaa

/- A function of the program as a plain function. Written by wip/gen/gen.py. -/
namespace Go.Proofs.Ytmlolnaannoifaa

/- 176 math.NaN -/
abbrev P176 : List PK := []
abbrev R176 : List RK := [.one (.flt .f64)]
abbrev X176 : Type := Unit
abbrev W176 : Type := (Nat × Unit) × Unit
noncomputable def tr176 (p186 : X186 → List Prop) (f186 : X186 → W186) (x : X176) : VT W176 :=
  .pre (p186 ((9221120237041090561 : Int), ())) (
  let t1 := f186 ((9221120237041090561 : Int), ())
  .ret ((t1.1.1, ()), (())))
noncomputable def pp176 (x : X176) : List Prop := [(tr176 pp186 ff186 x).U]
noncomputable def ff176 (x : X176) : W176 := (tr176 pp186 ff186 x).W
noncomputable def s176 : FSpec := ⟨P176, R176, pp176, ff176⟩
def E176 (p186 : X186 → List Prop) (f186 : X186 → W186) : Env := fun f => get1 [(186, ⟨P186, R186, p186, f186⟩)] f
set_option maxRecDepth 100000 in
theorem e176 (p186 : X186 → List Prop) (f186 : X186 → W186) (x : X176) (Q : RsT R176 → OsT P176 → Prop) : evFun TT (E176 p186 f186) Try.f176.ntmps (fun _ => none) (bodyOf Try.f176) Try.f176.results.toList P176 R176 x Q = (tr176 p186 f186 x).V (fun w => Q w.1 w.2) := by kernel_rfl
set_option maxRecDepth 100000 in
theorem ok176 : EnvOK Try.prog (E176 pp186 ff186) := envOK_of (by
  intro p hp
  simp only [List.mem_cons, List.not_mem_nil, or_false] at hp
  rcases hp with rfl
  · exact snd186)
theorem b176 (x : X176) (h : (tr176 pp186 ff186 x).U) : Holds (evFun TT (E176 pp186 ff186) Try.f176.ntmps (fun _ => none) (bodyOf Try.f176) Try.f176.results.toList P176 R176 x (fun r o => (r, o) = (tr176 pp186 ff186 x).W)) := by
  constructor; rw [e176]; exact VT.sound _ h rfl
set_option maxRecDepth 100000 in
theorem snd176 : Sound Try.prog 176 s176 := sound_h (fs := s176) tt_ok mixed ok176 Try.func176 rfl (by kernel_rfl) (ann := fun _ _ => none) fun x h => b176 x (h _ (List.mem_singleton.2 rfl))
end Go.Proofs.Ytmlolnaannoifaa

/- A function of the program as a plain function. Written by wip/gen/gen.py. -/
namespace Go.Proofs.Ytmlolnaannoifaa

/- 187 math.Float64bits -/
abbrev P187 : List PK := [.val (.flt .f64)]
abbrev R187 : List RK := [.one (.int .u64)]
abbrev X187 : Type := Nat × Unit
abbrev W187 : Type := (Int × Unit) × Unit
def q187 : Nat → Prop := fun x => isNaNB .f64 x = false
def g187 : Nat → Int := fun x => (x : Int)
def pp187 (x : X187) : List Prop := [q187 x.1]
def ff187 (x : X187) : W187 := ((g187 x.1, ()), ())
def s187 : FSpec := ⟨P187, R187, pp187, ff187⟩
set_option maxRecDepth 100000 in
theorem snd187 : Sound Try.prog 187 s187 := extern_sound (a := (.flt .f64)) (r := (.int .u64)) (pre := q187) (p := g187) (e := Extern.MathFloatBits.float64bits) Try.func187 rfl (by kernel_rfl) (by kernel_rfl) (by kernel_rfl) tr_flt rt_int fun U w v x => ext_bits (fun _ => rfl) U w v x
end Go.Proofs.Ytmlolnaannoifaa

/- A function of the program as a plain function. Written by wip/gen/gen.py. -/
namespace Go.Proofs.Ytmlolnaannoifaa

/- 177 math.Abs -/
abbrev P177 : List PK := [.val (.flt .f64)]
abbrev R177 : List RK := [.one (.flt .f64)]
abbrev X177 : Type := Nat × Unit
abbrev W177 : Type := (Nat × Unit) × Unit
noncomputable def tr177 (p186 : X186 → List Prop) (f186 : X186 → W186) (p187 : X187 → List Prop) (f187 : X187 → W187) (x : X177) : VT W177 :=
  .pre (p187 (x.1, ())) (
  let t4 := f187 (x.1, ())
  let t5 := ibits .andNot .u64 t4.1.1 (9223372036854775808 : Int)
  .pre (p186 (t5, ())) (
  let t6 := f186 (t5, ())
  .ret ((t6.1.1, ()), (()))))
noncomputable def pp177 (x : X177) : List Prop := [(tr177 pp186 ff186 pp187 ff187 x).U]
noncomputable def ff177 (x : X177) : W177 := (tr177 pp186 ff186 pp187 ff187 x).W
noncomputable def s177 : FSpec := ⟨P177, R177, pp177, ff177⟩
def E177 (p186 : X186 → List Prop) (f186 : X186 → W186) (p187 : X187 → List Prop) (f187 : X187 → W187) : Env := fun f => get1 [(186, ⟨P186, R186, p186, f186⟩), (187, ⟨P187, R187, p187, f187⟩)] f
set_option maxRecDepth 100000 in
theorem e177 (p186 : X186 → List Prop) (f186 : X186 → W186) (p187 : X187 → List Prop) (f187 : X187 → W187) (x : X177) (Q : RsT R177 → OsT P177 → Prop) : evFun TT (E177 p186 f186 p187 f187) Try.f177.ntmps (fun _ => none) (bodyOf Try.f177) Try.f177.results.toList P177 R177 x Q = (tr177 p186 f186 p187 f187 x).V (fun w => Q w.1 w.2) := by kernel_rfl
set_option maxRecDepth 100000 in
theorem ok177 : EnvOK Try.prog (E177 pp186 ff186 pp187 ff187) := envOK_of (by
  intro p hp
  simp only [List.mem_cons, List.not_mem_nil, or_false] at hp
  rcases hp with rfl | rfl
  · exact snd186
  · exact snd187)
theorem b177 (x : X177) (h : (tr177 pp186 ff186 pp187 ff187 x).U) : Holds (evFun TT (E177 pp186 ff186 pp187 ff187) Try.f177.ntmps (fun _ => none) (bodyOf Try.f177) Try.f177.results.toList P177 R177 x (fun r o => (r, o) = (tr177 pp186 ff186 pp187 ff187 x).W)) := by
  constructor; rw [e177]; exact VT.sound _ h rfl
set_option maxRecDepth 100000 in
theorem snd177 : Sound Try.prog 177 s177 := sound_h (fs := s177) tt_ok mixed ok177 Try.func177 rfl (by kernel_rfl) (ann := fun _ _ => none) fun x h => b177 x (h _ (List.mem_singleton.2 rfl))
end Go.Proofs.Ytmlolnaannoifaa

/- A function of the program as a plain function. Written by wip/gen/gen.py. -/
namespace Go.Proofs.Ytmlolnaannoifaa

/- 188 math.archTrunc -/
abbrev P188 : List PK := [.val (.flt .f64)]
abbrev R188 : List RK := [.one (.flt .f64)]
abbrev X188 : Type := Nat × Unit
abbrev W188 : Type := (Nat × Unit) × Unit
def q188 : Nat → Prop := fun _ => True
def g188 : Nat → Nat := fint .zero
def pp188 (x : X188) : List Prop := [q188 x.1]
def ff188 (x : X188) : W188 := ((g188 x.1, ()), ())
def s188 : FSpec := ⟨P188, R188, pp188, ff188⟩
set_option maxRecDepth 100000 in
theorem snd188 : Sound Try.prog 188 s188 := extern_sound (a := (.flt .f64)) (r := (.flt .f64)) (pre := q188) (p := g188) (e := Extern.MathFloor.toIntegral "math.archTrunc" .zero) Try.func188 rfl (by kernel_rfl) (by kernel_rfl) (by kernel_rfl) tr_flt rt_flt fun U w v x => ext_int U w v x
end Go.Proofs.Ytmlolnaannoifaa

/- A function of the program as a plain function. Written by wip/gen/gen.py. -/
namespace Go.Proofs.Ytmlolnaannoifaa

/- 194 math.Copysign -/
abbrev P194 : List PK := [.val (.flt .f64), .val (.flt .f64)]
abbrev R194 : List RK := [.one (.flt .f64)]
abbrev X194 : Type := Nat × Nat × Unit
abbrev W194 : Type := (Nat × Unit) × Unit
noncomputable def tr194 (p186 : X186 → List Prop) (f186 : X186 → W186) (p187 : X187 → List Prop) (f187 : X187 → W187) (x : X194) : VT W194 :=
  .pre (p187 (x.1, ())) (
  let t6 := f187 (x.1, ())
  let t7 := ibits .andNot .u64 t6.1.1 (9223372036854775808 : Int)
  .pre (p187 (x.2.1, ())) (
  let t9 := f187 (x.2.1, ())
  let t10 := ibits .and .u64 t9.1.1 (9223372036854775808 : Int)
  let t11 := ibits .or .u64 t7 t10
  .pre (p186 (t11, ())) (
  let t12 := f186 (t11, ())
  .ret ((t12.1.1, ()), (())))))
noncomputable def pp194 (x : X194) : List Prop := [(tr194 pp186 ff186 pp187 ff187 x).U]
noncomputable def ff194 (x : X194) : W194 := (tr194 pp186 ff186 pp187 ff187 x).W
noncomputable def s194 : FSpec := ⟨P194, R194, pp194, ff194⟩
def E194 (p186 : X186 → List Prop) (f186 : X186 → W186) (p187 : X187 → List Prop) (f187 : X187 → W187) : Env := fun f => get1 [(186, ⟨P186, R186, p186, f186⟩), (187, ⟨P187, R187, p187, f187⟩)] f
set_option maxRecDepth 100000 in
theorem e194 (p186 : X186 → List Prop) (f186 : X186 → W186) (p187 : X187 → List Prop) (f187 : X187 → W187) (x : X194) (Q : RsT R194 → OsT P194 → Prop) : evFun TT (E194 p186 f186 p187 f187) Try.f194.ntmps (fun _ => none) (bodyOf Try.f194) Try.f194.results.toList P194 R194 x Q = (tr194 p186 f186 p187 f187 x).V (fun w => Q w.1 w.2) := by kernel_rfl
set_option maxRecDepth 100000 in
theorem ok194 : EnvOK Try.prog (E194 pp186 ff186 pp187 ff187) := envOK_of (by
  intro p hp
  simp only [List.mem_cons, List.not_mem_nil, or_false] at hp
  rcases hp with rfl | rfl
  · exact snd186
  · exact snd187)
theorem b194 (x : X194) (h : (tr194 pp186 ff186 pp187 ff187 x).U) : Holds (evFun TT (E194 pp186 ff186 pp187 ff187) Try.f194.ntmps (fun _ => none) (bodyOf Try.f194) Try.f194.results.toList P194 R194 x (fun r o => (r, o) = (tr194 pp186 ff186 pp187 ff187 x).W)) := by
  constructor; rw [e194]; exact VT.sound _ h rfl
set_option maxRecDepth 100000 in
theorem snd194 : Sound Try.prog 194 s194 := sound_h (fs := s194) tt_ok mixed ok194 Try.func194 rfl (by kernel_rfl) (ann := fun _ _ => none) fun x h => b194 x (h _ (List.mem_singleton.2 rfl))
end Go.Proofs.Ytmlolnaannoifaa

/- A function of the program as a plain function. Written by wip/gen/gen.py. -/
namespace Go.Proofs.Ytmlolnaannoifaa

/- 189 math.trunc -/
abbrev P189 : List PK := [.val (.flt .f64)]
abbrev R189 : List RK := [.one (.flt .f64)]
abbrev X189 : Type := Nat × Unit
abbrev W189 : Type := (Nat × Unit) × Unit
noncomputable def tr189 (p177 : X177 → List Prop) (f177 : X177 → W177) (p186 : X186 → List Prop) (f186 : X186 → W186) (p187 : X187 → List Prop) (f187 : X187 → W187) (p194 : X194 → List Prop) (f194 : X194 → W194) (x : X189) : VT W189 :=
  .pre (p177 (x.1, ())) (
  let t6 := f177 (x.1, ())
  let t7 := flss .f64 t6.1.1 (4607182418800017408 : Nat)
  .ite t7 (
    .pre (p194 ((0 : Nat), x.1, ())) (
    let t9 := f194 ((0 : Nat), x.1, ())
    .ret ((t9.1.1, ()), (())))
  ) (
    .pre (p187 (x.1, ())) (
    let t11 := f187 (x.1, ())
    .step (0 ≤ (52 : Int)) (
    let t13 := ishr .u64 t11.1.1 (52 : Int)
    let t14 := ibits .and .u64 t13 (2047 : Int)
    let t15 := IntKind.wrap .u64 (t14 - (1023 : Int))
    let t17 := decide (t15 < (52 : Int))
    .ite t17 (
      let t20 := IntKind.wrap .u64 ((52 : Int) - t15)
      .step (0 ≤ t20) (
      let t21 := ishl .u64 (1 : Int) t20
      let t22 := IntKind.wrap .u64 (t21 - (1 : Int))
      let t23 := ibits .andNot .u64 t11.1.1 t22
      .pre (p186 (t23, ())) (
      let t25 := f186 (t23, ())
      .ret ((t25.1.1, ()), (()))))
    ) (
      .pre (p186 (t11.1.1, ())) (
      let t25_1 := f186 (t11.1.1, ())
      .ret ((t25_1.1.1, ()), (())))
    )))
  ))
noncomputable def pp189 (x : X189) : List Prop := [(tr189 pp177 ff177 pp186 ff186 pp187 ff187 pp194 ff194 x).U]
noncomputable def ff189 (x : X189) : W189 := (tr189 pp177 ff177 pp186 ff186 pp187 ff187 pp194 ff194 x).W
noncomputable def s189 : FSpec := ⟨P189, R189, pp189, ff189⟩
def E189 (p177 : X177 → List Prop) (f177 : X177 → W177) (p186 : X186 → List Prop) (f186 : X186 → W186) (p187 : X187 → List Prop) (f187 : X187 → W187) (p194 : X194 → List Prop) (f194 : X194 → W194) : Env := fun f => get1 [(177, ⟨P177, R177, p177, f177⟩), (186, ⟨P186, R186, p186, f186⟩), (187, ⟨P187, R187, p187, f187⟩), (194, ⟨P194, R194, p194, f194⟩)] f
set_option maxRecDepth 100000 in
theorem e189 (p177 : X177 → List Prop) (f177 : X177 → W177) (p186 : X186 → List Prop) (f186 : X186 → W186) (p187 : X187 → List Prop) (f187 : X187 → W187) (p194 : X194 → List Prop) (f194 : X194 → W194) (x : X189) (Q : RsT R189 → OsT P189 → Prop) : evFun TT (E189 p177 f177 p186 f186 p187 f187 p194 f194) Try.f189.ntmps (fun _ => none) (bodyOf Try.f189) Try.f189.results.toList P189 R189 x Q = (tr189 p177 f177 p186 f186 p187 f187 p194 f194 x).V (fun w => Q w.1 w.2) := by kernel_rfl
set_option maxRecDepth 100000 in
theorem ok189 : EnvOK Try.prog (E189 pp177 ff177 pp186 ff186 pp187 ff187 pp194 ff194) := envOK_of (by
  intro p hp
  simp only [List.mem_cons, List.not_mem_nil, or_false] at hp
  rcases hp with rfl | rfl | rfl | rfl
  · exact snd177
  · exact snd186
  · exact snd187
  · exact snd194)
theorem b189 (x : X189) (h : (tr189 pp177 ff177 pp186 ff186 pp187 ff187 pp194 ff194 x).U) : Holds (evFun TT (E189 pp177 ff177 pp186 ff186 pp187 ff187 pp194 ff194) Try.f189.ntmps (fun _ => none) (bodyOf Try.f189) Try.f189.results.toList P189 R189 x (fun r o => (r, o) = (tr189 pp177 ff177 pp186 ff186 pp187 ff187 pp194 ff194 x).W)) := by
  constructor; rw [e189]; exact VT.sound _ h rfl
set_option maxRecDepth 100000 in
theorem snd189 : Sound Try.prog 189 s189 := sound_h (fs := s189) tt_ok mixed ok189 Try.func189 rfl (by kernel_rfl) (ann := fun _ _ => none) fun x h => b189 x (h _ (List.mem_singleton.2 rfl))
end Go.Proofs.Ytmlolnaannoifaa

/- A function of the program as a plain function. Written by wip/gen/gen.py. -/
namespace Go.Proofs.Ytmlolnaannoifaa

/- 178 math.Trunc -/
abbrev P178 : List PK := [.val (.flt .f64)]
abbrev R178 : List RK := [.one (.flt .f64)]
abbrev X178 : Type := Nat × Unit
abbrev W178 : Type := (Nat × Unit) × Unit
noncomputable def tr178 (p188 : X188 → List Prop) (f188 : X188 → W188) (p189 : X189 → List Prop) (f189 : X189 → W189) (x : X178) : VT W178 :=
  .pre (p188 (x.1, ())) (
  let t4 := f188 (x.1, ())
  .ret ((t4.1.1, ()), (())))
noncomputable def pp178 (x : X178) : List Prop := [(tr178 pp188 ff188 pp189 ff189 x).U]
noncomputable def ff178 (x : X178) : W178 := (tr178 pp188 ff188 pp189 ff189 x).W
noncomputable def s178 : FSpec := ⟨P178, R178, pp178, ff178⟩
def E178 (p188 : X188 → List Prop) (f188 : X188 → W188) (p189 : X189 → List Prop) (f189 : X189 → W189) : Env := fun f => get1 [(188, ⟨P188, R188, p188, f188⟩), (189, ⟨P189, R189, p189, f189⟩)] f
set_option maxRecDepth 100000 in
theorem e178 (p188 : X188 → List Prop) (f188 : X188 → W188) (p189 : X189 → List Prop) (f189 : X189 → W189) (x : X178) (Q : RsT R178 → OsT P178 → Prop) : evFun TT (E178 p188 f188 p189 f189) Try.f178.ntmps (fun _ => none) (bodyOf Try.f178) Try.f178.results.toList P178 R178 x Q = (tr178 p188 f188 p189 f189 x).V (fun w => Q w.1 w.2) := by kernel_rfl
set_option maxRecDepth 100000 in
theorem ok178 : EnvOK Try.prog (E178 pp188 ff188 pp189 ff189) := envOK_of (by
  intro p hp
  simp only [List.mem_cons, List.not_mem_nil, or_false] at hp
  rcases hp with rfl | rfl
  · exact snd188
  · exact snd189)
theorem b178 (x : X178) (h : (tr178 pp188 ff188 pp189 ff189 x).U) : Holds (evFun TT (E178 pp188 ff188 pp189 ff189) Try.f178.ntmps (fun _ => none) (bodyOf Try.f178) Try.f178.results.toList P178 R178 x (fun r o => (r, o) = (tr178 pp188 ff188 pp189 ff189 x).W)) := by
  constructor; rw [e178]; exact VT.sound _ h rfl
set_option maxRecDepth 100000 in
theorem snd178 : Sound Try.prog 178 s178 := sound_h (fs := s178) tt_ok mixed ok178 Try.func178 rfl (by kernel_rfl) (ann := fun _ _ => none) fun x h => b178 x (h _ (List.mem_singleton.2 rfl))
end Go.Proofs.Ytmlolnaannoifaa

/- A function of the program as a plain function. Written by wip/gen/gen.py. -/
namespace Go.Proofs.Ytmlolnaannoifaa

/- 147 loop.example/g01193/impl.SineTurns -/
abbrev P147 : List PK := [.val (.flt .f32)]
abbrev R147 : List RK := [.one (.flt .f32)]
abbrev X147 : Type := Nat × Unit
abbrev W147 : Type := (Nat × Unit) × Unit
abbrev K147_r19 : Type := Bool × Nat × Nat × Nat × Int × Unit
noncomputable def lp147_1 (p138 : X138 → List Prop) (f138 : X138 → W138) (p176 : X176 → List Prop) (f176 : X176 → W176) (p177 : X177 → List Prop) (f177 : X177 → W177) (p178 : X178 → List Prop) (f178 : X178 → W178) (x : X147) (k : K147_r19) : VT (K147_r19 ⊕ W147) :=
  let t49 := decide ((1 : Int) ≤ k.2.2.2.2.1)
  .ite t49 (
    let t54 := fop .mul .f64 k.2.2.1 k.2.2.2.1
    let t56 := IntKind.wrap .i64 ((2 : Int) * k.2.2.2.2.1)
    let t58 := IntKind.wrap .i64 ((2 : Int) * k.2.2.2.2.1)
    let t59 := IntKind.wrap .i64 (t58 + (1 : Int))
    let t60 := IntKind.wrap .i64 (t56 * t59)
    let t61 := FloatKind.nearest .f64 t60
    let t62 := fop .quo .f64 t54 t61
    let t63 := fop .sub .f64 (4607182418800017408 : Nat) t62
    let t51 := IntKind.wrap .i64 (k.2.2.2.2.1 - (1 : Int))
    .next (k.1, k.2.1, k.2.2.1, t63, t51, ()) (fun y q => (k.1 = y.1) ∧ (k.2.1 = y.2.1) ∧ (k.2.2.1 = y.2.2.1) ∧ (t63 = y.2.2.2.1) ∧ (t51 = y.2.2.2.2.1) ∧ q) (fun _ h => ⟨rfl, rfl, rfl, rfl, rfl, h⟩)
  ) (
    .exit (
    let t66 := fop .mul .f64 k.2.1 k.2.2.2.1
    .ite k.1 (
      let t69 := fneg .f64 t66
      .step (fcvOk .f64 .f32 t69) (
      let t71 := fcv .f64 .f32 t69
      .ret ((t71, ()), (())))
    ) (
      .step (fcvOk .f64 .f32 t66) (
      let t71_1 := fcv .f64 .f32 t66
      .ret ((t71_1, ()), (())))
    ))
  )
def an147 (x : X147) : Nat → Option Ann := fun i =>
  bif Nat.beq i 19 then some ⟨K147_r19, fun k => ⟨[(5, .one (.d .bool k.1)), (6, .one (.d (.flt .f64) k.2.1)), (7, .one (.d (.flt .f64) k.2.2.1)), (8, .one (.d (.flt .f64) k.2.2.2.1)), (9, .one (.d (.int .i64) k.2.2.2.2.1))], []⟩, []⟩ else
  none
noncomputable def tr147 (p138 : X138 → List Prop) (f138 : X138 → W138) (p176 : X176 → List Prop) (f176 : X176 → W176) (p177 : X177 → List Prop) (f177 : X177 → W177) (p178 : X178 → List Prop) (f178 : X178 → W178) (x : X147) : VT W147 :=
  .step (fcvOk .f32 .f64 x.1) (
  let t12 := fcv .f32 .f64 x.1
  .pre (p138 (x.1, ())) (
  let t15 := f138 (x.1, ())
  let t16 := !t15.1.1
  .ite t16 (
    .pre (p176 (())) (
    let t17 := f176 (())
    .step (fcvOk .f64 .f32 t17.1.1) (
    let t18 := fcv .f64 .f32 t17.1.1
    .ret ((t18, ()), (()))))
  ) (
    .pre (p177 (t12, ())) (
    let t21 := f177 (t12, ())
    let t22 := fleq .f64 (4841369599423283200 : Nat) t21.1.1
    .ite t22 (
      .ret (((0 : Nat), ()), (()))
    ) (
      .pre (p178 (t12, ())) (
      let t24 := f178 (t12, ())
      let t26 := !feq .f64 t24.1.1 (0 : Nat)
      .ite t26 (
        let t29 := fop .sub .f64 t12 t24.1.1
        let t31 := flss .f64 t29 (0 : Nat)
        .ite t31 (
          let t33 := fop .add .f64 t29 (4607182418800017408 : Nat)
          let t35 := fleq .f64 (4602678819172646912 : Nat) t33
          .ite t35 (
            let t38 := fop .sub .f64 t33 (4602678819172646912 : Nat)
            let t40 := flss .f64 (4598175219545276416 : Nat) t38
            .ite t40 (
              let t42 := fop .sub .f64 (4602678819172646912 : Nat) t38
              let t44 := fop .mul .f64 t42 (4618760256179416344 : Nat)
              let t47 := fop .mul .f64 t44 t44
              .loop (t35, t44, t47, (4607182418800017408 : Nat), (8 : Int), ()) (fun y q => (t35 = y.1) ∧ (t44 = y.2.1) ∧ (t47 = y.2.2.1) ∧ ((4607182418800017408 : Nat) = y.2.2.2.1) ∧ ((8 : Int) = y.2.2.2.2.1) ∧ q) (fun _ h => ⟨rfl, rfl, rfl, rfl, rfl, h⟩) ((0, ()), (())) (lp147_1 p138 f138 p176 f176 p177 f177 p178 f178 x)
            ) (
              let t44_1 := fop .mul .f64 t38 (4618760256179416344 : Nat)
              let t47_1 := fop .mul .f64 t44_1 t44_1
              .loop (t35, t44_1, t47_1, (4607182418800017408 : Nat), (8 : Int), ()) (fun y q => (t35 = y.1) ∧ (t44_1 = y.2.1) ∧ (t47_1 = y.2.2.1) ∧ ((4607182418800017408 : Nat) = y.2.2.2.1) ∧ ((8 : Int) = y.2.2.2.2.1) ∧ q) (fun _ h => ⟨rfl, rfl, rfl, rfl, rfl, h⟩) ((0, ()), (())) (lp147_1 p138 f138 p176 f176 p177 f177 p178 f178 x)
            )
          ) (
            let t40_1 := flss .f64 (4598175219545276416 : Nat) t33
            .ite t40_1 (
              let t42_1 := fop .sub .f64 (4602678819172646912 : Nat) t33
              let t44_2 := fop .mul .f64 t42_1 (4618760256179416344 : Nat)
              let t47_2 := fop .mul .f64 t44_2 t44_2
              .loop (t35, t44_2, t47_2, (4607182418800017408 : Nat), (8 : Int), ()) (fun y q => (t35 = y.1) ∧ (t44_2 = y.2.1) ∧ (t47_2 = y.2.2.1) ∧ ((4607182418800017408 : Nat) = y.2.2.2.1) ∧ ((8 : Int) = y.2.2.2.2.1) ∧ q) (fun _ h => ⟨rfl, rfl, rfl, rfl, rfl, h⟩) ((0, ()), (())) (lp147_1 p138 f138 p176 f176 p177 f177 p178 f178 x)
            ) (
              let t44_3 := fop .mul .f64 t33 (4618760256179416344 : Nat)
              let t47_3 := fop .mul .f64 t44_3 t44_3
              .loop (t35, t44_3, t47_3, (4607182418800017408 : Nat), (8 : Int), ()) (fun y q => (t35 = y.1) ∧ (t44_3 = y.2.1) ∧ (t47_3 = y.2.2.1) ∧ ((4607182418800017408 : Nat) = y.2.2.2.1) ∧ ((8 : Int) = y.2.2.2.2.1) ∧ q) (fun _ h => ⟨rfl, rfl, rfl, rfl, rfl, h⟩) ((0, ()), (())) (lp147_1 p138 f138 p176 f176 p177 f177 p178 f178 x)
            )
          )
        ) (
          let t35_1 := fleq .f64 (4602678819172646912 : Nat) t29
          .ite t35_1 (
            let t38_1 := fop .sub .f64 t29 (4602678819172646912 : Nat)
            let t40_2 := flss .f64 (4598175219545276416 : Nat) t38_1
            .ite t40_2 (
              let t42_2 := fop .sub .f64 (4602678819172646912 : Nat) t38_1
              let t44_4 := fop .mul .f64 t42_2 (4618760256179416344 : Nat)
              let t47_4 := fop .mul .f64 t44_4 t44_4
              .loop (t35_1, t44_4, t47_4, (4607182418800017408 : Nat), (8 : Int), ()) (fun y q => (t35_1 = y.1) ∧ (t44_4 = y.2.1) ∧ (t47_4 = y.2.2.1) ∧ ((4607182418800017408 : Nat) = y.2.2.2.1) ∧ ((8 : Int) = y.2.2.2.2.1) ∧ q) (fun _ h => ⟨rfl, rfl, rfl, rfl, rfl, h⟩) ((0, ()), (())) (lp147_1 p138 f138 p176 f176 p177 f177 p178 f178 x)
            ) (
              let t44_5 := fop .mul .f64 t38_1 (4618760256179416344 : Nat)
              let t47_5 := fop .mul .f64 t44_5 t44_5
              .loop (t35_1, t44_5, t47_5, (4607182418800017408 : Nat), (8 : Int), ()) (fun y q => (t35_1 = y.1) ∧ (t44_5 = y.2.1) ∧ (t47_5 = y.2.2.1) ∧ ((4607182418800017408 : Nat) = y.2.2.2.1) ∧ ((8 : Int) = y.2.2.2.2.1) ∧ q) (fun _ h => ⟨rfl, rfl, rfl, rfl, rfl, h⟩) ((0, ()), (())) (lp147_1 p138 f138 p176 f176 p177 f177 p178 f178 x)
            )
          ) (
            let t40_3 := flss .f64 (4598175219545276416 : Nat) t29
            .ite t40_3 (
              let t42_3 := fop .sub .f64 (4602678819172646912 : Nat) t29
              let t44_6 := fop .mul .f64 t42_3 (4618760256179416344 : Nat)
              let t47_6 := fop .mul .f64 t44_6 t44_6
              .loop (t35_1, t44_6, t47_6, (4607182418800017408 : Nat), (8 : Int), ()) (fun y q => (t35_1 = y.1) ∧ (t44_6 = y.2.1) ∧ (t47_6 = y.2.2.1) ∧ ((4607182418800017408 : Nat) = y.2.2.2.1) ∧ ((8 : Int) = y.2.2.2.2.1) ∧ q) (fun _ h => ⟨rfl, rfl, rfl, rfl, rfl, h⟩) ((0, ()), (())) (lp147_1 p138 f138 p176 f176 p177 f177 p178 f178 x)
            ) (
              let t44_7 := fop .mul .f64 t29 (4618760256179416344 : Nat)
              let t47_7 := fop .mul .f64 t44_7 t44_7
              .loop (t35_1, t44_7, t47_7, (4607182418800017408 : Nat), (8 : Int), ()) (fun y q => (t35_1 = y.1) ∧ (t44_7 = y.2.1) ∧ (t47_7 = y.2.2.1) ∧ ((4607182418800017408 : Nat) = y.2.2.2.1) ∧ ((8 : Int) = y.2.2.2.2.1) ∧ q) (fun _ h => ⟨rfl, rfl, rfl, rfl, rfl, h⟩) ((0, ()), (())) (lp147_1 p138 f138 p176 f176 p177 f177 p178 f178 x)
            )
          )
        )
      ) (
        let t31_1 := flss .f64 t12 (0 : Nat)
        .ite t31_1 (
          let t33_1 := fop .add .f64 t12 (4607182418800017408 : Nat)
          let t35_2 := fleq .f64 (4602678819172646912 : Nat) t33_1
          .ite t35_2 (
            let t38_2 := fop .sub .f64 t33_1 (4602678819172646912 : Nat)
            let t40_4 := flss .f64 (4598175219545276416 : Nat) t38_2
            .ite t40_4 (
              let t42_4 := fop .sub .f64 (4602678819172646912 : Nat) t38_2
              let t44_8 := fop .mul .f64 t42_4 (4618760256179416344 : Nat)
              let t47_8 := fop .mul .f64 t44_8 t44_8
              .loop (t35_2, t44_8, t47_8, (4607182418800017408 : Nat), (8 : Int), ()) (fun y q => (t35_2 = y.1) ∧ (t44_8 = y.2.1) ∧ (t47_8 = y.2.2.1) ∧ ((4607182418800017408 : Nat) = y.2.2.2.1) ∧ ((8 : Int) = y.2.2.2.2.1) ∧ q) (fun _ h => ⟨rfl, rfl, rfl, rfl, rfl, h⟩) ((0, ()), (())) (lp147_1 p138 f138 p176 f176 p177 f177 p178 f178 x)
            ) (
              let t44_9 := fop .mul .f64 t38_2 (4618760256179416344 : Nat)
              let t47_9 := fop .mul .f64 t44_9 t44_9
              .loop (t35_2, t44_9, t47_9, (4607182418800017408 : Nat), (8 : Int), ()) (fun y q => (t35_2 = y.1) ∧ (t44_9 = y.2.1) ∧ (t47_9 = y.2.2.1) ∧ ((4607182418800017408 : Nat) = y.2.2.2.1) ∧ ((8 : Int) = y.2.2.2.2.1) ∧ q) (fun _ h => ⟨rfl, rfl, rfl, rfl, rfl, h⟩) ((0, ()), (())) (lp147_1 p138 f138 p176 f176 p177 f177 p178 f178 x)
            )
          ) (
            let t40_5 := flss .f64 (4598175219545276416 : Nat) t33_1
            .ite t40_5 (
              let t42_5 := fop .sub .f64 (4602678819172646912 : Nat) t33_1
              let t44_10 := fop .mul .f64 t42_5 (4618760256179416344 : Nat)
              let t47_10 := fop .mul .f64 t44_10 t44_10
              .loop (t35_2, t44_10, t47_10, (4607182418800017408 : Nat), (8 : Int), ()) (fun y q => (t35_2 = y.1) ∧ (t44_10 = y.2.1) ∧ (t47_10 = y.2.2.1) ∧ ((4607182418800017408 : Nat) = y.2.2.2.1) ∧ ((8 : Int) = y.2.2.2.2.1) ∧ q) (fun _ h => ⟨rfl, rfl, rfl, rfl, rfl, h⟩) ((0, ()), (())) (lp147_1 p138 f138 p176 f176 p177 f177 p178 f178 x)
            ) (
              let t44_11 := fop .mul .f64 t33_1 (4618760256179416344 : Nat)
              let t47_11 := fop .mul .f64 t44_11 t44_11
              .loop (t35_2, t44_11, t47_11, (4607182418800017408 : Nat), (8 : Int), ()) (fun y q => (t35_2 = y.1) ∧ (t44_11 = y.2.1) ∧ (t47_11 = y.2.2.1) ∧ ((4607182418800017408 : Nat) = y.2.2.2.1) ∧ ((8 : Int) = y.2.2.2.2.1) ∧ q) (fun _ h => ⟨rfl, rfl, rfl, rfl, rfl, h⟩) ((0, ()), (())) (lp147_1 p138 f138 p176 f176 p177 f177 p178 f178 x)
            )
          )
        ) (
          let t35_3 := fleq .f64 (4602678819172646912 : Nat) t12
          .ite t35_3 (
            let t38_3 := fop .sub .f64 t12 (4602678819172646912 : Nat)
            let t40_6 := flss .f64 (4598175219545276416 : Nat) t38_3
            .ite t40_6 (
              let t42_6 := fop .sub .f64 (4602678819172646912 : Nat) t38_3
              let t44_12 := fop .mul .f64 t42_6 (4618760256179416344 : Nat)
              let t47_12 := fop .mul .f64 t44_12 t44_12
              .loop (t35_3, t44_12, t47_12, (4607182418800017408 : Nat), (8 : Int), ()) (fun y q => (t35_3 = y.1) ∧ (t44_12 = y.2.1) ∧ (t47_12 = y.2.2.1) ∧ ((4607182418800017408 : Nat) = y.2.2.2.1) ∧ ((8 : Int) = y.2.2.2.2.1) ∧ q) (fun _ h => ⟨rfl, rfl, rfl, rfl, rfl, h⟩) ((0, ()), (())) (lp147_1 p138 f138 p176 f176 p177 f177 p178 f178 x)
            ) (
              let t44_13 := fop .mul .f64 t38_3 (4618760256179416344 : Nat)
              let t47_13 := fop .mul .f64 t44_13 t44_13
              .loop (t35_3, t44_13, t47_13, (4607182418800017408 : Nat), (8 : Int), ()) (fun y q => (t35_3 = y.1) ∧ (t44_13 = y.2.1) ∧ (t47_13 = y.2.2.1) ∧ ((4607182418800017408 : Nat) = y.2.2.2.1) ∧ ((8 : Int) = y.2.2.2.2.1) ∧ q) (fun _ h => ⟨rfl, rfl, rfl, rfl, rfl, h⟩) ((0, ()), (())) (lp147_1 p138 f138 p176 f176 p177 f177 p178 f178 x)
            )
          ) (
            let t40_7 := flss .f64 (4598175219545276416 : Nat) t12
            .ite t40_7 (
              let t42_7 := fop .sub .f64 (4602678819172646912 : Nat) t12
              let t44_14 := fop .mul .f64 t42_7 (4618760256179416344 : Nat)
              let t47_14 := fop .mul .f64 t44_14 t44_14
              .loop (t35_3, t44_14, t47_14, (4607182418800017408 : Nat), (8 : Int), ()) (fun y q => (t35_3 = y.1) ∧ (t44_14 = y.2.1) ∧ (t47_14 = y.2.2.1) ∧ ((4607182418800017408 : Nat) = y.2.2.2.1) ∧ ((8 : Int) = y.2.2.2.2.1) ∧ q) (fun _ h => ⟨rfl, rfl, rfl, rfl, rfl, h⟩) ((0, ()), (())) (lp147_1 p138 f138 p176 f176 p177 f177 p178 f178 x)
            ) (
              let t44_15 := fop .mul .f64 t12 (4618760256179416344 : Nat)
              let t47_15 := fop .mul .f64 t44_15 t44_15
              .loop (t35_3, t44_15, t47_15, (4607182418800017408 : Nat), (8 : Int), ()) (fun y q => (t35_3 = y.1) ∧ (t44_15 = y.2.1) ∧ (t47_15 = y.2.2.1) ∧ ((4607182418800017408 : Nat) = y.2.2.2.1) ∧ ((8 : Int) = y.2.2.2.2.1) ∧ q) (fun _ h => ⟨rfl, rfl, rfl, rfl, rfl, h⟩) ((0, ()), (())) (lp147_1 p138 f138 p176 f176 p177 f177 p178 f178 x)
            )
          )
        )
      ))
    ))
  )))
noncomputable def pp147 (x : X147) : List Prop := [(tr147 pp138 ff138 pp176 ff176 pp177 ff177 pp178 ff178 x).U]
noncomputable def ff147 (x : X147) : W147 := (tr147 pp138 ff138 pp176 ff176 pp177 ff177 pp178 ff178 x).W
noncomputable def s147 : FSpec := ⟨P147, R147, pp147, ff147⟩
def E147 (p138 : X138 → List Prop) (f138 : X138 → W138) (p176 : X176 → List Prop) (f176 : X176 → W176) (p177 : X177 → List Prop) (f177 : X177 → W177) (p178 : X178 → List Prop) (f178 : X178 → W178) : Env := fun f => get1 [(138, ⟨P138, R138, p138, f138⟩), (176, ⟨P176, R176, p176, f176⟩), (177, ⟨P177, R177, p177, f177⟩), (178, ⟨P178, R178, p178, f178⟩)] f
set_option maxRecDepth 100000 in
theorem e147 (p138 : X138 → List Prop) (f138 : X138 → W138) (p176 : X176 → List Prop) (f176 : X176 → W176) (p177 : X177 → List Prop) (f177 : X177 → W177) (p178 : X178 → List Prop) (f178 : X178 → W178) (x : X147) (Q : RsT R147 → OsT P147 → Prop) : evFun TT (E147 p138 f138 p176 f176 p177 f177 p178 f178) Try.f147.ntmps (an147 x) (bodyOf Try.f147) Try.f147.results.toList P147 R147 x Q = (tr147 p138 f138 p176 f176 p177 f177 p178 f178 x).V (fun w => Q w.1 w.2) := by kernel_rfl
set_option maxRecDepth 100000 in
theorem ok147 : EnvOK Try.prog (E147 pp138 ff138 pp176 ff176 pp177 ff177 pp178 ff178) := envOK_of (by
  intro p hp
  simp only [List.mem_cons, List.not_mem_nil, or_false] at hp
  rcases hp with rfl | rfl | rfl | rfl
  · exact snd138
  · exact snd176
  · exact snd177
  · exact snd178)
theorem b147 (x : X147) (h : (tr147 pp138 ff138 pp176 ff176 pp177 ff177 pp178 ff178 x).U) : Holds (evFun TT (E147 pp138 ff138 pp176 ff176 pp177 ff177 pp178 ff178) Try.f147.ntmps (an147 x) (bodyOf Try.f147) Try.f147.results.toList P147 R147 x (fun r o => (r, o) = (tr147 pp138 ff138 pp176 ff176 pp177 ff177 pp178 ff178 x).W)) := by
  constructor; rw [e147]; exact VT.sound _ h rfl
set_option maxRecDepth 100000 in
theorem snd147 : Sound Try.prog 147 s147 := sound_h (fs := s147) tt_ok mixed ok147 Try.func147 rfl (by kernel_rfl) (ann := an147) fun x h => b147 x (h _ (List.mem_singleton.2 rfl))
end Go.Proofs.Ytmlolnaannoifaa

/- A function of the program as a plain function. Written by wip/gen/gen.py. -/
namespace Go.Proofs.Ytmlolnaannoifaa

/- 190 math.RoundToEven -/
abbrev P190 : List PK := [.val (.flt .f64)]
abbrev R190 : List RK := [.one (.flt .f64)]
abbrev X190 : Type := Nat × Unit
abbrev W190 : Type := (Nat × Unit) × Unit
def q190 : Nat → Prop := fun _ => True
def g190 : Nat → Nat := fint .even
def pp190 (x : X190) : List Prop := [q190 x.1]
def ff190 (x : X190) : W190 := ((g190 x.1, ()), ())
def s190 : FSpec := ⟨P190, R190, pp190, ff190⟩
set_option maxRecDepth 100000 in
theorem snd190 : Sound Try.prog 190 s190 := extern_sound (a := (.flt .f64)) (r := (.flt .f64)) (pre := q190) (p := g190) (e := Extern.MathFloor.toIntegral "math.RoundToEven" .even) Try.func190 rfl (by kernel_rfl) (by kernel_rfl) (by kernel_rfl) tr_flt rt_flt fun U w v x => ext_int U w v x
end Go.Proofs.Ytmlolnaannoifaa

/- A function of the program as a plain function. Written by wip/gen/gen.py. -/
namespace Go.Proofs.Ytmlolnaannoifaa

/- 179 loop.example/g01193/impl.nearest -/
abbrev P179 : List PK := [.val (.flt .f32)]
abbrev R179 : List RK := [.one (.flt .f32)]
abbrev X179 : Type := Nat × Unit
abbrev W179 : Type := (Nat × Unit) × Unit
noncomputable def tr179 (p190 : X190 → List Prop) (f190 : X190 → W190) (x : X179) : VT W179 :=
  .step (fcvOk .f32 .f64 x.1) (
  let t4 := fcv .f32 .f64 x.1
  .pre (p190 (t4, ())) (
  let t5 := f190 (t4, ())
  .step (fcvOk .f64 .f32 t5.1.1) (
  let t6 := fcv .f64 .f32 t5.1.1
  .ret ((t6, ()), (())))))
noncomputable def pp179 (x : X179) : List Prop := [(tr179 pp190 ff190 x).U]
noncomputable def ff179 (x : X179) : W179 := (tr179 pp190 ff190 x).W
noncomputable def s179 : FSpec := ⟨P179, R179, pp179, ff179⟩
def E179 (p190 : X190 → List Prop) (f190 : X190 → W190) : Env := fun f => get1 [(190, ⟨P190, R190, p190, f190⟩)] f
set_option maxRecDepth 100000 in
theorem e179 (p190 : X190 → List Prop) (f190 : X190 → W190) (x : X179) (Q : RsT R179 → OsT P179 → Prop) : evFun TT (E179 p190 f190) Try.f179.ntmps (fun _ => none) (bodyOf Try.f179) Try.f179.results.toList P179 R179 x Q = (tr179 p190 f190 x).V (fun w => Q w.1 w.2) := by kernel_rfl
set_option maxRecDepth 100000 in
theorem ok179 : EnvOK Try.prog (E179 pp190 ff190) := envOK_of (by
  intro p hp
  simp only [List.mem_cons, List.not_mem_nil, or_false] at hp
  rcases hp with rfl
  · exact snd190)
theorem b179 (x : X179) (h : (tr179 pp190 ff190 x).U) : Holds (evFun TT (E179 pp190 ff190) Try.f179.ntmps (fun _ => none) (bodyOf Try.f179) Try.f179.results.toList P179 R179 x (fun r o => (r, o) = (tr179 pp190 ff190 x).W)) := by
  constructor; rw [e179]; exact VT.sound _ h rfl
set_option maxRecDepth 100000 in
theorem snd179 : Sound Try.prog 179 s179 := sound_h (fs := s179) tt_ok mixed ok179 Try.func179 rfl (by kernel_rfl) (ann := fun _ _ => none) fun x h => b179 x (h _ (List.mem_singleton.2 rfl))
end Go.Proofs.Ytmlolnaannoifaa

/- A function of the program as a plain function. Written by wip/gen/gen.py. -/
namespace Go.Proofs.Ytmlolnaannoifaa

/- 148 loop.example/g01193/impl.foldOf -/
abbrev P148 : List PK := [.val (.flt .f32), .val (.flt .f32)]
abbrev R148 : List RK := [.one (.flt .f32)]
abbrev X148 : Type := Nat × Nat × Unit
abbrev W148 : Type := (Nat × Unit) × Unit
noncomputable def tr148 (p179 : X179 → List Prop) (f179 : X179 → W179) (x : X148) : VT W148 :=
  let t6 := fop .mul .f32 (1073741824 : Nat) x.2.1
  let t9 := fop .mul .f32 (1073741824 : Nat) x.2.1
  let t10 := fop .quo .f32 x.1 t9
  .pre (p179 (t10, ())) (
  let t11 := f179 (t10, ())
  let t12 := fop .mul .f32 t6 t11.1.1
  .ret ((t12, ()), (())))
noncomputable def pp148 (x : X148) : List Prop := [(tr148 pp179 ff179 x).U]
noncomputable def ff148 (x : X148) : W148 := (tr148 pp179 ff179 x).W
noncomputable def s148 : FSpec := ⟨P148, R148, pp148, ff148⟩
def E148 (p179 : X179 → List Prop) (f179 : X179 → W179) : Env := fun f => get1 [(179, ⟨P179, R179, p179, f179⟩)] f
set_option maxRecDepth 100000 in
theorem e148 (p179 : X179 → List Prop) (f179 : X179 → W179) (x : X148) (Q : RsT R148 → OsT P148 → Prop) : evFun TT (E148 p179 f179) Try.f148.ntmps (fun _ => none) (bodyOf Try.f148) Try.f148.results.toList P148 R148 x Q = (tr148 p179 f179 x).V (fun w => Q w.1 w.2) := by kernel_rfl
set_option maxRecDepth 100000 in
theorem ok148 : EnvOK Try.prog (E148 pp179 ff179) := envOK_of (by
  intro p hp
  simp only [List.mem_cons, List.not_mem_nil, or_false] at hp
  rcases hp with rfl
  · exact snd179)
theorem b148 (x : X148) (h : (tr148 pp179 ff179 x).U) : Holds (evFun TT (E148 pp179 ff179) Try.f148.ntmps (fun _ => none) (bodyOf Try.f148) Try.f148.results.toList P148 R148 x (fun r o => (r, o) = (tr148 pp179 ff179 x).W)) := by
  constructor; rw [e148]; exact VT.sound _ h rfl
set_option maxRecDepth 100000 in
theorem snd148 : Sound Try.prog 148 s148 := sound_h (fs := s148) tt_ok mixed ok148 Try.func148 rfl (by kernel_rfl) (ann := fun _ _ => none) fun x h => b148 x (h _ (List.mem_singleton.2 rfl))
end Go.Proofs.Ytmlolnaannoifaa

/- A function of the program as a plain function. Written by wip/gen/gen.py. -/
namespace Go.Proofs.Ytmlolnaannoifaa

/- 110 (*loop.example/g01193/impl.Node).point -/
abbrev P110 : List PK := [.ro (.pair (.int .i64) (.pair (.int .i64) (.pair (.int .i64) (.pair (.sl (.flt .f32)) .unit)))), .st (.pair (.flt .f32) (.pair (.flt .f32) (.pair (.flt .f32) .unit)))]
abbrev R110 : List RK := [.st (.pair (.flt .f32) (.pair (.flt .f32) (.pair (.flt .f32) .unit)))]
abbrev X110 : Type := (Int × Int × Int × List Nat × Unit) × (Nat × Nat × Nat × Unit) × Unit
abbrev W110 : Type := ((Nat × Nat × Nat × Unit) × Unit) × Unit
noncomputable def tr110 (p14 : X14 → List Prop) (f14 : X14 → W14) (p31 : X31 → List Prop) (f31 : X31 → W31) (p118 : X118 → List Prop) (f118 : X118 → W118) (p141 : X141 → List Prop) (f141 : X141 → W141) (p147 : X147 → List Prop) (f147 : X147 → W147) (p148 : X148 → List Prop) (f148 : X148 → W148) (x : X110) : VT W110 :=
  .pre (p31 ((x.2.1.1, x.2.1.2.1, x.2.1.2.2.1, ()), ())) (
  let t16 := f31 ((x.2.1.1, x.2.1.2.1, x.2.1.2.2.1, ()), ())
  let t21 := IntKind.wrap .i64 (x.1.2.2.1 + (1 : Int))
  .step ((3 : Int) ≠ 0) (
  let t22 := Int.tmod t21 (3 : Int)
  let t27 := IntKind.wrap .i64 (x.1.2.2.1 + (2 : Int))
  .step ((3 : Int) ≠ 0) (
  let t28 := Int.tmod t27 (3 : Int)
  let t34 := decide (x.1.1 = (9 : Int))
  .ite t34 (
    .step (0 ≤ (0 : Int)) (
    .step ((0 : Int) < x.1.2.2.2.1.length) (
    let t37 := x.1.2.2.2.1.getD (0 : Int).toNat (0 : Nat)
    .step (0 ≤ (1 : Int)) (
    .step ((1 : Int) < x.1.2.2.2.1.length) (
    let t40 := x.1.2.2.2.1.getD (1 : Int).toNat (0 : Nat)
    .step (0 ≤ (2 : Int)) (
    .step ((2 : Int) < x.1.2.2.2.1.length) (
    let t43 := x.1.2.2.2.1.getD (2 : Int).toNat (0 : Nat)
    .pre (p14 ((x.2.1.1, x.2.1.2.1, x.2.1.2.2.1, ()), (t37, t40, t43, ()), ())) (
    let t46 := f14 ((x.2.1.1, x.2.1.2.1, x.2.1.2.2.1, ()), (t37, t40, t43, ()), ())
    .ret (((t46.1.1.1, t46.1.1.2.1, t46.1.1.2.2.1, ()), ()), (())))))))))
  ) (
    let t48 := decide (x.1.1 = (10 : Int))
    .ite t48 (
      .step (0 ≤ (0 : Int)) (
      .step ((0 : Int) < x.1.2.2.2.1.length) (
      let t52 := x.1.2.2.2.1.getD (0 : Int).toNat (0 : Nat)
      let t54 := fop .quo .f32 x.2.1.1 t52
      .step (0 ≤ (0 : Int)) (
      .step ((0 : Int) < x.1.2.2.2.1.length) (
      let t58 := x.1.2.2.2.1.getD (0 : Int).toNat (0 : Nat)
      let t60 := fop .quo .f32 x.2.1.2.1 t58
      .step (0 ≤ (0 : Int)) (
      .step ((0 : Int) < x.1.2.2.2.1.length) (
      let t64 := x.1.2.2.2.1.getD (0 : Int).toNat (0 : Nat)
      let t66 := fop .quo .f32 x.2.1.2.2.1 t64
      .ret (((t54, t60, t66, ()), ()), (()))))))))
    ) (
      let t69 := decide (x.1.1 = (11 : Int))
      .ite t69 (
        .step (0 ≤ (0 : Int)) (
        .step ((0 : Int) < x.1.2.2.2.1.length) (
        let t73 := x.1.2.2.2.1.getD (0 : Int).toNat (0 : Nat)
        let t75 := fop .quo .f32 x.2.1.1 t73
        .step (0 ≤ (1 : Int)) (
        .step ((1 : Int) < x.1.2.2.2.1.length) (
        let t79 := x.1.2.2.2.1.getD (1 : Int).toNat (0 : Nat)
        let t81 := fop .quo .f32 x.2.1.2.1 t79
        .step (0 ≤ (2 : Int)) (
        .step ((2 : Int) < x.1.2.2.2.1.length) (
        let t85 := x.1.2.2.2.1.getD (2 : Int).toNat (0 : Nat)
        let t87 := fop .quo .f32 x.2.1.2.2.1 t85
        .ret (((t75, t81, t87, ()), ()), (()))))))))
      ) (
        let t90 := decide (x.1.1 = (12 : Int))
        .ite t90 (
          .step (0 ≤ (0 : Int)) (
          .step ((0 : Int) < x.1.2.2.2.1.length) (
          let t92 := x.1.2.2.2.1.getD (0 : Int).toNat (0 : Nat)
          let t94 := fop .sub .f32 (1048576000 : Nat) t92
          .pre (p147 (t94, ())) (
          let t95 := f147 (t94, ())
          .step (0 ≤ (0 : Int)) (
          .step ((0 : Int) < x.1.2.2.2.1.length) (
          let t97 := x.1.2.2.2.1.getD (0 : Int).toNat (0 : Nat)
          .pre (p147 (t97, ())) (
          let t99 := f147 (t97, ())
          .step (0 ≤ t22) (
          .step (t22 < 3) (
          .step (t22.toNat < 3) (
          let t106 := fop .mul .f32 t95.1.1 (([t16.1.1.1, t16.1.1.2.1, t16.1.1.2.2.1]).getD t22.toNat (0 : Nat))
          .step (0 ≤ t28) (
          .step (t28 < 3) (
          .step (t28.toNat < 3) (
          let t111 := fop .mul .f32 t99.1.1 (([t16.1.1.1, t16.1.1.2.1, t16.1.1.2.2.1]).getD t28.toNat (0 : Nat))
          let t112 := fop .add .f32 t106 t111
          .step (0 ≤ t28) (
          .step (t28 < 3) (
          .step (t28.toNat < 3) (
          let t117 := fop .mul .f32 t95.1.1 (([t16.1.1.1, t16.1.1.2.1, t16.1.1.2.2.1]).getD t28.toNat (0 : Nat))
          .step (0 ≤ t22) (
          .step (t22 < 3) (
          .step (t22.toNat < 3) (
          let t122 := fop .mul .f32 t99.1.1 (([t16.1.1.1, t16.1.1.2.1, t16.1.1.2.2.1]).getD t22.toNat (0 : Nat))
          let t123 := fop .sub .f32 t117 t122
          .step (0 ≤ t22) (
          .step (t22 < 3) (
          .step (t22.toNat < 3) (
          .step (0 ≤ t28) (
          .step (t28 < 3) (
          .step (t28.toNat < 3) (
          .pre (p118 (((((([t16.1.1.1, t16.1.1.2.1, t16.1.1.2.2.1]).set t22.toNat t112).set t28.toNat t123).getD 0 (0 : Nat)), (((([t16.1.1.1, t16.1.1.2.1, t16.1.1.2.2.1]).set t22.toNat t112).set t28.toNat t123).getD 1 (0 : Nat)), (((([t16.1.1.1, t16.1.1.2.1, t16.1.1.2.2.1]).set t22.toNat t112).set t28.toNat t123).getD 2 (0 : Nat)), ()), ())) (
          let t166 := f118 (((((([t16.1.1.1, t16.1.1.2.1, t16.1.1.2.2.1]).set t22.toNat t112).set t28.toNat t123).getD 0 (0 : Nat)), (((([t16.1.1.1, t16.1.1.2.1, t16.1.1.2.2.1]).set t22.toNat t112).set t28.toNat t123).getD 1 (0 : Nat)), (((([t16.1.1.1, t16.1.1.2.1, t16.1.1.2.2.1]).set t22.toNat t112).set t28.toNat t123).getD 2 (0 : Nat)), ()), ())
          .ret (((t166.1.1.1, t166.1.1.2.1, t166.1.1.2.2.1, ()), ()), (())))))))))))))))))))))))))))
        ) (
          let t127 := decide (x.1.1 = (13 : Int))
          .ite t127 (
            .step (0 ≤ x.1.2.2.1) (
            .step (x.1.2.2.1 < 3) (
            .step (x.1.2.2.1.toNat < 3) (
            .pre (p141 ((([t16.1.1.1, t16.1.1.2.1, t16.1.1.2.2.1]).getD x.1.2.2.1.toNat (0 : Nat)), ())) (
            let t138 := f141 ((([t16.1.1.1, t16.1.1.2.1, t16.1.1.2.2.1]).getD x.1.2.2.1.toNat (0 : Nat)), ())
            .step (0 ≤ x.1.2.2.1) (
            .step (x.1.2.2.1 < 3) (
            .step (x.1.2.2.1.toNat < 3) (
            .pre (p118 ((((([t16.1.1.1, t16.1.1.2.1, t16.1.1.2.2.1]).set x.1.2.2.1.toNat t138.1.1).getD 0 (0 : Nat)), ((([t16.1.1.1, t16.1.1.2.1, t16.1.1.2.2.1]).set x.1.2.2.1.toNat t138.1.1).getD 1 (0 : Nat)), ((([t16.1.1.1, t16.1.1.2.1, t16.1.1.2.2.1]).set x.1.2.2.1.toNat t138.1.1).getD 2 (0 : Nat)), ()), ())) (
            let t166_1 := f118 ((((([t16.1.1.1, t16.1.1.2.1, t16.1.1.2.2.1]).set x.1.2.2.1.toNat t138.1.1).getD 0 (0 : Nat)), ((([t16.1.1.1, t16.1.1.2.1, t16.1.1.2.2.1]).set x.1.2.2.1.toNat t138.1.1).getD 1 (0 : Nat)), ((([t16.1.1.1, t16.1.1.2.1, t16.1.1.2.2.1]).set x.1.2.2.1.toNat t138.1.1).getD 2 (0 : Nat)), ()), ())
            .ret (((t166_1.1.1.1, t166_1.1.1.2.1, t166_1.1.1.2.2.1, ()), ()), (()))))))))))
          ) (
            let t141 := decide (x.1.1 = (14 : Int))
            .ite t141 (
              .step (0 ≤ x.1.2.2.1) (
              .step (x.1.2.2.1 < 3) (
              .step (x.1.2.2.1.toNat < 3) (
              .step (0 ≤ x.1.2.2.1) (
              .step (x.1.2.2.1 < 3) (
              .step (x.1.2.2.1.toNat < 3) (
              .step (0 ≤ (0 : Int)) (
              .step ((0 : Int) < x.1.2.2.2.1.length) (
              let t159 := x.1.2.2.2.1.getD (0 : Int).toNat (0 : Nat)
              .pre (p148 ((([t16.1.1.1, t16.1.1.2.1, t16.1.1.2.2.1]).getD x.1.2.2.1.toNat (0 : Nat)), t159, ())) (
              let t161 := f148 ((([t16.1.1.1, t16.1.1.2.1, t16.1.1.2.2.1]).getD x.1.2.2.1.toNat (0 : Nat)), t159, ())
              let t162 := fop .sub .f32 (([t16.1.1.1, t16.1.1.2.1, t16.1.1.2.2.1]).getD x.1.2.2.1.toNat (0 : Nat)) t161.1.1
              .pre (p141 (t162, ())) (
              let t163 := f141 (t162, ())
              .step (0 ≤ x.1.2.2.1) (
              .step (x.1.2.2.1 < 3) (
              .step (x.1.2.2.1.toNat < 3) (
              .pre (p118 ((((([t16.1.1.1, t16.1.1.2.1, t16.1.1.2.2.1]).set x.1.2.2.1.toNat t163.1.1).getD 0 (0 : Nat)), ((([t16.1.1.1, t16.1.1.2.1, t16.1.1.2.2.1]).set x.1.2.2.1.toNat t163.1.1).getD 1 (0 : Nat)), ((([t16.1.1.1, t16.1.1.2.1, t16.1.1.2.2.1]).set x.1.2.2.1.toNat t163.1.1).getD 2 (0 : Nat)), ()), ())) (
              let t166_2 := f118 ((((([t16.1.1.1, t16.1.1.2.1, t16.1.1.2.2.1]).set x.1.2.2.1.toNat t163.1.1).getD 0 (0 : Nat)), ((([t16.1.1.1, t16.1.1.2.1, t16.1.1.2.2.1]).set x.1.2.2.1.toNat t163.1.1).getD 1 (0 : Nat)), ((([t16.1.1.1, t16.1.1.2.1, t16.1.1.2.2.1]).set x.1.2.2.1.toNat t163.1.1).getD 2 (0 : Nat)), ()), ())
              .ret (((t166_2.1.1.1, t166_2.1.1.2.1, t166_2.1.1.2.2.1, ()), ()), (()))))))))))))))))
            ) (
              .pre (p118 (((([t16.1.1.1, t16.1.1.2.1, t16.1.1.2.2.1]).getD 0 (0 : Nat)), (([t16.1.1.1, t16.1.1.2.1, t16.1.1.2.2.1]).getD 1 (0 : Nat)), (([t16.1.1.1, t16.1.1.2.1, t16.1.1.2.2.1]).getD 2 (0 : Nat)), ()), ())) (
              let t166_3 := f118 (((([t16.1.1.1, t16.1.1.2.1, t16.1.1.2.2.1]).getD 0 (0 : Nat)), (([t16.1.1.1, t16.1.1.2.1, t16.1.1.2.2.1]).getD 1 (0 : Nat)), (([t16.1.1.1, t16.1.1.2.1, t16.1.1.2.2.1]).getD 2 (0 : Nat)), ()), ())
              .ret (((t166_3.1.1.1, t166_3.1.1.2.1, t166_3.1.1.2.2.1, ()), ()), (())))
            )
          )
        )
      )
    )
  ))))
noncomputable def pp110 (x : X110) : List Prop := [(tr110 pp14 ff14 pp31 ff31 pp118 ff118 pp141 ff141 pp147 ff147 pp148 ff148 x).U]
noncomputable def ff110 (x : X110) : W110 := (tr110 pp14 ff14 pp31 ff31 pp118 ff118 pp141 ff141 pp147 ff147 pp148 ff148 x).W
noncomputable def s110 : FSpec := ⟨P110, R110, pp110, ff110⟩
def E110 (p14 : X14 → List Prop) (f14 : X14 → W14) (p31 : X31 → List Prop) (f31 : X31 → W31) (p118 : X118 → List Prop) (f118 : X118 → W118) (p141 : X141 → List Prop) (f141 : X141 → W141) (p147 : X147 → List Prop) (f147 : X147 → W147) (p148 : X148 → List Prop) (f148 : X148 → W148) : Env := fun f => get1 [(14, ⟨P14, R14, p14, f14⟩), (31, ⟨P31, R31, p31, f31⟩), (118, ⟨P118, R118, p118, f118⟩), (141, ⟨P141, R141, p141, f141⟩), (147, ⟨P147, R147, p147, f147⟩), (148, ⟨P148, R148, p148, f148⟩)] f
set_option maxRecDepth 100000 in
theorem e110 (p14 : X14 → List Prop) (f14 : X14 → W14) (p31 : X31 → List Prop) (f31 : X31 → W31) (p118 : X118 → List Prop) (f118 : X118 → W118) (p141 : X141 → List Prop) (f141 : X141 → W141) (p147 : X147 → List Prop) (f147 : X147 → W147) (p148 : X148 → List Prop) (f148 : X148 → W148) (x : X110) (Q : RsT R110 → OsT P110 → Prop) : evFun TT (E110 p14 f14 p31 f31 p118 f118 p141 f141 p147 f147 p148 f148) Try.f110.ntmps (fun _ => none) (bodyOf Try.f110) Try.f110.results.toList P110 R110 x Q = (tr110 p14 f14 p31 f31 p118 f118 p141 f141 p147 f147 p148 f148 x).V (fun w => Q w.1 w.2) := by kernel_rfl
set_option maxRecDepth 100000 in
theorem ok110 : EnvOK Try.prog (E110 pp14 ff14 pp31 ff31 pp118 ff118 pp141 ff141 pp147 ff147 pp148 ff148) := envOK_of (by
  intro p hp
  simp only [List.mem_cons, List.not_mem_nil, or_false] at hp
  rcases hp with rfl | rfl | rfl | rfl | rfl | rfl
  · exact snd14
  · exact snd31
  · exact snd118
  · exact snd141
  · exact snd147
  · exact snd148)
theorem b110 (x : X110) (h : (tr110 pp14 ff14 pp31 ff31 pp118 ff118 pp141 ff141 pp147 ff147 pp148 ff148 x).U) : Holds (evFun TT (E110 pp14 ff14 pp31 ff31 pp118 ff118 pp141 ff141 pp147 ff147 pp148 ff148) Try.f110.ntmps (fun _ => none) (bodyOf Try.f110) Try.f110.results.toList P110 R110 x (fun r o => (r, o) = (tr110 pp14 ff14 pp31 ff31 pp118 ff118 pp141 ff141 pp147 ff147 pp148 ff148 x).W)) := by
  constructor; rw [e110]; exact VT.sound _ h rfl
set_option maxRecDepth 100000 in
theorem snd110 : Sound Try.prog 110 s110 := sound_h (fs := s110) tt_ok mixed ok110 Try.func110 rfl (by kernel_rfl) (ann := fun _ _ => none) fun x h => b110 x (h _ (List.mem_singleton.2 rfl))
end Go.Proofs.Ytmlolnaannoifaa

/- A function of the program as a plain function. Written by wip/gen/gen.py. -/
namespace Go.Proofs.Ytmlolnaannoifaa

/- 73 (*loop.example/g01193/impl.Shape).distance -/
abbrev P73 : List PK := [.ro (.pair (.sl (.pair (.int .i64) (.pair (.int .i64) (.pair (.int .i64) (.pair (.sl (.flt .f32)) .unit))))) .unit), .val (.int .i64), .st (.pair (.flt .f32) (.pair (.flt .f32) (.pair (.flt .f32) .unit)))]
abbrev R73 : List RK := [.one (.flt .f32)]
abbrev X73 : Type := ((List (Int × Int × Int × List Nat × Unit)) × Unit) × Int × (Nat × Nat × Nat × Unit) × Unit
abbrev W73 : Type := (Nat × Unit) × Unit
noncomputable def tr73 (p70 : X70 → List Prop) (f70 : X70 → W70) (p73 : X73 → List Prop) (f73 : X73 → W73) (p108 : X108 → List Prop) (f108 : X108 → W108) (p109 : X109 → List Prop) (f109 : X109 → W109) (p110 : X110 → List Prop) (f110 : X110 → W110) (x : X73) : VT W73 :=
  .step (0 ≤ x.2.1) (
  .step (x.2.1 < x.1.1.length) (
  let t14 := x.1.1.getD x.2.1.toNat ((0, 0, 0, [], ()) : (Int × Int × Int × List Nat × Unit))
  .pre (p70 (t14, ())) (
  let t16 := f70 (t14, ())
  let t18 := (t16.1.1.length : Int)
  let t20 := decide (t18 = (0 : Int))
  .ite t20 (
    .pre (p108 (t14, (x.2.2.1.1, x.2.2.1.2.1, x.2.2.1.2.2.1, ()), ())) (
    let t23 := f108 (t14, (x.2.2.1.1, x.2.2.1.2.1, x.2.2.1.2.2.1, ()), ())
    .ret ((t23.1.1, ()), (())))
  ) (
    let t25 := decide (t18 = (1 : Int))
    .ite t25 (
      .pre (p110 (t14, (x.2.2.1.1, x.2.2.1.2.1, x.2.2.1.2.2.1, ()), ())) (
      let t34 := f110 (t14, (x.2.2.1.1, x.2.2.1.2.1, x.2.2.1.2.2.1, ()), ())
      .pre (p73 (x.1, t14.2.1, (t34.1.1.1, t34.1.1.2.1, t34.1.1.2.2.1, ()), ())) (
      let t35 := f73 (x.1, t14.2.1, (t34.1.1.1, t34.1.1.2.1, t34.1.1.2.2.1, ()), ())
      .pre (p109 (t14, t35.1.1, (0 : Nat), ())) (
      let t36 := f109 (t14, t35.1.1, (0 : Nat), ())
      .ret ((t36.1.1, ()), (())))))
    ) (
      .pre (p73 (x.1, t14.2.1, (x.2.2.1.1, x.2.2.1.2.1, x.2.2.1.2.2.1, ()), ())) (
      let t44 := f73 (x.1, t14.2.1, (x.2.2.1.1, x.2.2.1.2.1, x.2.2.1.2.2.1, ()), ())
      .pre (p73 (x.1, t14.2.2.1, (x.2.2.1.1, x.2.2.1.2.1, x.2.2.1.2.2.1, ()), ())) (
      let t51 := f73 (x.1, t14.2.2.1, (x.2.2.1.1, x.2.2.1.2.1, x.2.2.1.2.2.1, ()), ())
      .pre (p109 (t14, t44.1.1, t51.1.1, ())) (
      let t52 := f109 (t14, t44.1.1, t51.1.1, ())
      .ret ((t52.1.1, ()), (())))))
    )
  ))))
noncomputable def pf73 : Nat → (X73 → List Prop) × (X73 → W73)
  | 0 => (fun _ => [False], fun _ => ((0, ()), (())))
  | n + 1 => (fun x => [(tr73 pp70 ff70 (pf73 n).1 (pf73 n).2 pp108 ff108 pp109 ff109 pp110 ff110 x).U], fun x => (tr73 pp70 ff70 (pf73 n).1 (pf73 n).2 pp108 ff108 pp109 ff109 pp110 ff110 x).W)
noncomputable def pk73 (n : Nat) : X73 → List Prop := (pf73 n).1
noncomputable def fk73 (n : Nat) : X73 → W73 := (pf73 n).2
noncomputable def pp73 (x : X73) : List Prop := [∃ n, ∀ p ∈ pk73 n x, p]
noncomputable def ff73 : X73 → W73 := recF pk73 fk73
noncomputable def s73 : FSpec := ⟨P73, R73, pp73, ff73⟩
def E73 (p70 : X70 → List Prop) (f70 : X70 → W70) (p73 : X73 → List Prop) (f73 : X73 → W73) (p108 : X108 → List Prop) (f108 : X108 → W108) (p109 : X109 → List Prop) (f109 : X109 → W109) (p110 : X110 → List Prop) (f110 : X110 → W110) : Env := fun f => get1 [(70, ⟨P70, R70, p70, f70⟩), (73, ⟨P73, R73, p73, f73⟩), (108, ⟨P108, R108, p108, f108⟩), (109, ⟨P109, R109, p109, f109⟩), (110, ⟨P110, R110, p110, f110⟩)] f
set_option maxRecDepth 100000 in
theorem e73 (p70 : X70 → List Prop) (f70 : X70 → W70) (p73 : X73 → List Prop) (f73 : X73 → W73) (p108 : X108 → List Prop) (f108 : X108 → W108) (p109 : X109 → List Prop) (f109 : X109 → W109) (p110 : X110 → List Prop) (f110 : X110 → W110) (x : X73) (Q : RsT R73 → OsT P73 → Prop) : evFun TT (E73 p70 f70 p73 f73 p108 f108 p109 f109 p110 f110) Try.f73.ntmps (fun _ => none) (bodyOf Try.f73) Try.f73.results.toList P73 R73 x Q = (tr73 p70 f70 p73 f73 p108 f108 p109 f109 p110 f110 x).V (fun w => Q w.1 w.2) := by kernel_rfl
set_option maxRecDepth 100000 in
theorem ok73 (n : Nat) (hk : Sound Try.prog 73 ⟨P73, R73, pk73 n, fk73 n⟩) : EnvOK Try.prog (E73 pp70 ff70 (pk73 n) (fk73 n) pp108 ff108 pp109 ff109 pp110 ff110) := envOK_of (by
  intro p hp
  simp only [List.mem_cons, List.not_mem_nil, or_false] at hp
  rcases hp with rfl | rfl | rfl | rfl | rfl
  · exact snd70
  · exact hk
  · exact snd108
  · exact snd109
  · exact snd110)
theorem b73 (n : Nat) (x : X73) (h : (tr73 pp70 ff70 (pk73 n) (fk73 n) pp108 ff108 pp109 ff109 pp110 ff110 x).U) : Holds (evFun TT (E73 pp70 ff70 (pk73 n) (fk73 n) pp108 ff108 pp109 ff109 pp110 ff110) Try.f73.ntmps (fun _ => none) (bodyOf Try.f73) Try.f73.results.toList P73 R73 x (fun r o => (r, o) = (tr73 pp70 ff70 (pk73 n) (fk73 n) pp108 ff108 pp109 ff109 pp110 ff110 x).W)) := by
  constructor; rw [e73]; exact VT.sound _ h rfl
set_option maxRecDepth 100000 in
theorem snd73 : Sound Try.prog 73 s73 := rec_sound (fun x h => h False (by simp [pk73, pf73])) fun n hk => sound_h (fs := ⟨P73, R73, pk73 (n + 1), fk73 (n + 1)⟩) tt_ok mixed (ok73 n hk) Try.func73 rfl (by kernel_rfl) (ann := fun _ _ => none) fun x h => b73 n x (h _ (List.mem_singleton.2 rfl))
end Go.Proofs.Ytmlolnaannoifaa

/- A function of the program as a plain function. Written by wip/gen/gen.py. -/
namespace Go.Proofs.Ytmlolnaannoifaa

/- 37 (*loop.example/g01193/impl.Shape).at -/
abbrev P37 : List PK := [.ro (.pair (.sl (.pair (.int .i64) (.pair (.int .i64) (.pair (.int .i64) (.pair (.sl (.flt .f32)) .unit))))) .unit), .st (.pair (.flt .f32) (.pair (.flt .f32) (.pair (.flt .f32) .unit)))]
abbrev R37 : List RK := [.one (.flt .f32)]
abbrev X37 : Type := ((List (Int × Int × Int × List Nat × Unit)) × Unit) × (Nat × Nat × Nat × Unit) × Unit
abbrev W37 : Type := (Nat × Unit) × Unit
noncomputable def tr37 (p63 : X63 → List Prop) (f63 : X63 → W63) (p73 : X73 → List Prop) (f73 : X73 → W73) (x : X37) : VT W37 :=
  .pre (p63 (x.1, ())) (
  let t7 := f63 (x.1, ())
  .pre (p73 (x.1, t7.1.1, (x.2.1.1, x.2.1.2.1, x.2.1.2.2.1, ()), ())) (
  let t9 := f73 (x.1, t7.1.1, (x.2.1.1, x.2.1.2.1, x.2.1.2.2.1, ()), ())
  .ret ((t9.1.1, ()), (()))))
noncomputable def pp37 (x : X37) : List Prop := [(tr37 pp63 ff63 pp73 ff73 x).U]
noncomputable def ff37 (x : X37) : W37 := (tr37 pp63 ff63 pp73 ff73 x).W
noncomputable def s37 : FSpec := ⟨P37, R37, pp37, ff37⟩
def E37 (p63 : X63 → List Prop) (f63 : X63 → W63) (p73 : X73 → List Prop) (f73 : X73 → W73) : Env := fun f => get1 [(63, ⟨P63, R63, p63, f63⟩), (73, ⟨P73, R73, p73, f73⟩)] f
set_option maxRecDepth 100000 in
theorem e37 (p63 : X63 → List Prop) (f63 : X63 → W63) (p73 : X73 → List Prop) (f73 : X73 → W73) (x : X37) (Q : RsT R37 → OsT P37 → Prop) : evFun TT (E37 p63 f63 p73 f73) Try.f37.ntmps (fun _ => none) (bodyOf Try.f37) Try.f37.results.toList P37 R37 x Q = (tr37 p63 f63 p73 f73 x).V (fun w => Q w.1 w.2) := by kernel_rfl
set_option maxRecDepth 100000 in
theorem ok37 : EnvOK Try.prog (E37 pp63 ff63 pp73 ff73) := envOK_of (by
  intro p hp
  simp only [List.mem_cons, List.not_mem_nil, or_false] at hp
  rcases hp with rfl | rfl
  · exact snd63
  · exact snd73)
theorem b37 (x : X37) (h : (tr37 pp63 ff63 pp73 ff73 x).U) : Holds (evFun TT (E37 pp63 ff63 pp73 ff73) Try.f37.ntmps (fun _ => none) (bodyOf Try.f37) Try.f37.results.toList P37 R37 x (fun r o => (r, o) = (tr37 pp63 ff63 pp73 ff73 x).W)) := by
  constructor; rw [e37]; exact VT.sound _ h rfl
set_option maxRecDepth 100000 in
theorem snd37 : Sound Try.prog 37 s37 := sound_h (fs := s37) tt_ok mixed ok37 Try.func37 rfl (by kernel_rfl) (ann := fun _ _ => none) fun x h => b37 x (h _ (List.mem_singleton.2 rfl))
end Go.Proofs.Ytmlolnaannoifaa

/- A function of the program as a plain function. Written by wip/gen/gen.py. -/
namespace Go.Proofs.Ytmlolnaannoifaa

/- 12 loop.example/g01193/impl.DistanceAt -/
abbrev P12 : List PK := [.st (.pair (.sl (.pair (.int .i64) (.pair (.int .i64) (.pair (.int .i64) (.pair (.sl (.flt .f32)) .unit))))) .unit), .st (.pair (.flt .f32) (.pair (.flt .f32) (.pair (.flt .f32) .unit)))]
abbrev R12 : List RK := [.one (.flt .f32), .one .bool]
abbrev X12 : Type := ((List (Int × Int × Int × List Nat × Unit)) × Unit) × (Nat × Nat × Nat × Unit) × Unit
abbrev W12 : Type := (Nat × Bool × Unit) × Unit
noncomputable def tr12 (p36 : X36 → List Prop) (f36 : X36 → W36) (p37 : X37 → List Prop) (f37 : X37 → W37) (x : X12) : VT W12 :=
  .pre (p36 ((x.1.1, ()), ())) (
  let t7 := f36 ((x.1.1, ()), ())
  let t8 := !t7.1.1
  .ite t8 (
    .ret (((0 : Nat), false, ()), (()))
  ) (
    .pre (p37 ((x.1.1, ()), (x.2.1.1, x.2.1.2.1, x.2.1.2.2.1, ()), ())) (
    let t10 := f37 ((x.1.1, ()), (x.2.1.1, x.2.1.2.1, x.2.1.2.2.1, ()), ())
    .ret ((t10.1.1, true, ()), (())))
  ))
noncomputable def pp12 (x : X12) : List Prop := [(tr12 pp36 ff36 pp37 ff37 x).U]
noncomputable def ff12 (x : X12) : W12 := (tr12 pp36 ff36 pp37 ff37 x).W
noncomputable def s12 : FSpec := ⟨P12, R12, pp12, ff12⟩
def E12 (p36 : X36 → List Prop) (f36 : X36 → W36) (p37 : X37 → List Prop) (f37 : X37 → W37) : Env := fun f => get1 [(36, ⟨P36, R36, p36, f36⟩), (37, ⟨P37, R37, p37, f37⟩)] f
set_option maxRecDepth 100000 in
theorem e12 (p36 : X36 → List Prop) (f36 : X36 → W36) (p37 : X37 → List Prop) (f37 : X37 → W37) (x : X12) (Q : RsT R12 → OsT P12 → Prop) : evFun TT (E12 p36 f36 p37 f37) Try.f12.ntmps (fun _ => none) (bodyOf Try.f12) Try.f12.results.toList P12 R12 x Q = (tr12 p36 f36 p37 f37 x).V (fun w => Q w.1 w.2) := by kernel_rfl
set_option maxRecDepth 100000 in
theorem ok12 : EnvOK Try.prog (E12 pp36 ff36 pp37 ff37) := envOK_of (by
  intro p hp
  simp only [List.mem_cons, List.not_mem_nil, or_false] at hp
  rcases hp with rfl | rfl
  · exact snd36
  · exact snd37)
theorem b12 (x : X12) (h : (tr12 pp36 ff36 pp37 ff37 x).U) : Holds (evFun TT (E12 pp36 ff36 pp37 ff37) Try.f12.ntmps (fun _ => none) (bodyOf Try.f12) Try.f12.results.toList P12 R12 x (fun r o => (r, o) = (tr12 pp36 ff36 pp37 ff37 x).W)) := by
  constructor; rw [e12]; exact VT.sound _ h rfl
set_option maxRecDepth 100000 in
theorem snd12 : Sound Try.prog 12 s12 := sound_h (fs := s12) tt_ok mixed ok12 Try.func12 rfl (by kernel_rfl) (ann := fun _ _ => none) fun x h => b12 x (h _ (List.mem_singleton.2 rfl))
end Go.Proofs.Ytmlolnaannoifaa

/- A function of the program as a plain function. Written by wip/gen/gen.py. -/
namespace Go.Proofs.Ytmlolnaannoifaa

/- 13 loop.example/g01193/impl.PlaceAt -/
abbrev P13 : List PK := [.st (.pair .str (.pair (.sl (.pair (.int .i64) (.pair (.int .i64) (.pair (.int .i64) (.pair (.sl (.flt .f32)) .unit))))) (.pair (.sl (.pair (.int .i64) (.pair (.flt .f32) (.pair (.flt .f32) (.pair (.flt .f32) .unit))))) .unit))), .val (.int .i64)]
abbrev R13 : List RK := [.st (.pair (.flt .f32) (.pair (.flt .f32) (.pair (.flt .f32) .unit))), .one .bool]
abbrev X13 : Type := (ByteArray × (List (Int × Int × Int × List Nat × Unit)) × (List (Int × Nat × Nat × Nat × Unit)) × Unit) × Int × Unit
abbrev W13 : Type := ((Nat × Nat × Nat × Unit) × Bool × Unit) × Unit
noncomputable def tr13 (p30 : X30 → List Prop) (f30 : X30 → W30) (p32 : X32 → List Prop) (f32 : X32 → W32) (p35 : X35 → List Prop) (f35 : X35 → W35) (x : X13) : VT W13 :=
  .pre (p35 ((x.1.1, x.1.2.1, x.1.2.2.1, ()), ())) (
  let t6 := f35 ((x.1.1, x.1.2.1, x.1.2.2.1, ()), ())
  let t7 := !t6.1.1
  .ite t7 (
    .ret ((((0 : Nat), (0 : Nat), (0 : Nat), ()), false, ()), (()))
  ) (
    .pre (p30 (x.2.1, ())) (
    let t10 := f30 (x.2.1, ())
    let t11 := !t10.1.1
    .ite t11 (
      .ret ((((0 : Nat), (0 : Nat), (0 : Nat), ()), false, ()), (()))
    ) (
      .pre (p32 ((x.1.1, x.1.2.1, x.1.2.2.1, ()), x.2.1, ())) (
      let t16 := f32 ((x.1.1, x.1.2.1, x.1.2.2.1, ()), x.2.1, ())
      .ret (((t16.1.1.1, t16.1.1.2.1, t16.1.1.2.2.1, ()), true, ()), (())))
    ))
  ))
noncomputable def pp13 (x : X13) : List Prop := [(tr13 pp30 ff30 pp32 ff32 pp35 ff35 x).U]
noncomputable def ff13 (x : X13) : W13 := (tr13 pp30 ff30 pp32 ff32 pp35 ff35 x).W
noncomputable def s13 : FSpec := ⟨P13, R13, pp13, ff13⟩
def E13 (p30 : X30 → List Prop) (f30 : X30 → W30) (p32 : X32 → List Prop) (f32 : X32 → W32) (p35 : X35 → List Prop) (f35 : X35 → W35) : Env := fun f => get1 [(30, ⟨P30, R30, p30, f30⟩), (32, ⟨P32, R32, p32, f32⟩), (35, ⟨P35, R35, p35, f35⟩)] f
set_option maxRecDepth 100000 in
theorem e13 (p30 : X30 → List Prop) (f30 : X30 → W30) (p32 : X32 → List Prop) (f32 : X32 → W32) (p35 : X35 → List Prop) (f35 : X35 → W35) (x : X13) (Q : RsT R13 → OsT P13 → Prop) : evFun TT (E13 p30 f30 p32 f32 p35 f35) Try.f13.ntmps (fun _ => none) (bodyOf Try.f13) Try.f13.results.toList P13 R13 x Q = (tr13 p30 f30 p32 f32 p35 f35 x).V (fun w => Q w.1 w.2) := by kernel_rfl
set_option maxRecDepth 100000 in
theorem ok13 : EnvOK Try.prog (E13 pp30 ff30 pp32 ff32 pp35 ff35) := envOK_of (by
  intro p hp
  simp only [List.mem_cons, List.not_mem_nil, or_false] at hp
  rcases hp with rfl | rfl | rfl
  · exact snd30
  · exact snd32
  · exact snd35)
theorem b13 (x : X13) (h : (tr13 pp30 ff30 pp32 ff32 pp35 ff35 x).U) : Holds (evFun TT (E13 pp30 ff30 pp32 ff32 pp35 ff35) Try.f13.ntmps (fun _ => none) (bodyOf Try.f13) Try.f13.results.toList P13 R13 x (fun r o => (r, o) = (tr13 pp30 ff30 pp32 ff32 pp35 ff35 x).W)) := by
  constructor; rw [e13]; exact VT.sound _ h rfl
set_option maxRecDepth 100000 in
theorem snd13 : Sound Try.prog 13 s13 := sound_h (fs := s13) tt_ok mixed ok13 Try.func13 rfl (by kernel_rfl) (ann := fun _ _ => none) fun x h => b13 x (h _ (List.mem_singleton.2 rfl))
end Go.Proofs.Ytmlolnaannoifaa

/- A function of the program as a plain function. Written by wip/gen/gen.py. -/
namespace Go.Proofs.Ytmlolnaannoifaa

/- 38 loop.example/g01193/impl.isNaN -/
abbrev P38 : List PK := [.val (.flt .f32)]
abbrev R38 : List RK := [.one .bool]
abbrev X38 : Type := Nat × Unit
abbrev W38 : Type := (Bool × Unit) × Unit
noncomputable def tr38 (x : X38) : VT W38 :=
  let t5 := !feq .f32 x.1 x.1
  .ret ((t5, ()), (()))
noncomputable def pp38 (x : X38) : List Prop := [(tr38 x).U]
noncomputable def ff38 (x : X38) : W38 := (tr38 x).W
noncomputable def s38 : FSpec := ⟨P38, R38, pp38, ff38⟩
def E38 : Env := fun f => get1 [] f
set_option maxRecDepth 100000 in
theorem e38 (x : X38) (Q : RsT R38 → OsT P38 → Prop) : evFun TT (E38) Try.f38.ntmps (fun _ => none) (bodyOf Try.f38) Try.f38.results.toList P38 R38 x Q = (tr38 x).V (fun w => Q w.1 w.2) := by kernel_rfl
set_option maxRecDepth 100000 in
theorem ok38 : EnvOK Try.prog E38 := envOK_of (by intro p hp; simp at hp)
theorem b38 (x : X38) (h : (tr38 x).U) : Holds (evFun TT (E38) Try.f38.ntmps (fun _ => none) (bodyOf Try.f38) Try.f38.results.toList P38 R38 x (fun r o => (r, o) = (tr38 x).W)) := by
  constructor; rw [e38]; exact VT.sound _ h rfl
set_option maxRecDepth 100000 in
theorem snd38 : Sound Try.prog 38 s38 := sound_h (fs := s38) tt_ok mixed ok38 Try.func38 rfl (by kernel_rfl) (ann := fun _ _ => none) fun x h => b38 x (h _ (List.mem_singleton.2 rfl))
end Go.Proofs.Ytmlolnaannoifaa

/- A function of the program as a plain function. Written by wip/gen/gen.py. -/
namespace Go.Proofs.Ytmlolnaannoifaa

/- 39 math.Float32bits -/
abbrev P39 : List PK := [.val (.flt .f32)]
abbrev R39 : List RK := [.one (.int .u32)]
abbrev X39 : Type := Nat × Unit
abbrev W39 : Type := (Int × Unit) × Unit
def q39 : Nat → Prop := fun x => isNaNB .f32 x = false
def g39 : Nat → Int := fun x => (x : Int)
def pp39 (x : X39) : List Prop := [q39 x.1]
def ff39 (x : X39) : W39 := ((g39 x.1, ()), ())
def s39 : FSpec := ⟨P39, R39, pp39, ff39⟩
set_option maxRecDepth 100000 in
theorem snd39 : Sound Try.prog 39 s39 := extern_sound (a := (.flt .f32)) (r := (.int .u32)) (pre := q39) (p := g39) (e := Extern.MathFloatBits.float32bits) Try.func39 rfl (by kernel_rfl) (by kernel_rfl) (by kernel_rfl) tr_flt rt_int fun U w v x => ext_bits (fun _ => rfl) U w v x
end Go.Proofs.Ytmlolnaannoifaa

/- A function of the program as a plain function. Written by wip/gen/gen.py. -/
namespace Go.Proofs.Ytmlolnaannoifaa

/- 15 loop.example/g01193/impl.SameNumber -/
abbrev P15 : List PK := [.val (.flt .f32), .val (.flt .f32)]
abbrev R15 : List RK := [.one .bool]
abbrev X15 : Type := Nat × Nat × Unit
abbrev W15 : Type := (Bool × Unit) × Unit
noncomputable def tr15 (p38 : X38 → List Prop) (f38 : X38 → W38) (p39 : X39 → List Prop) (f39 : X39 → W39) (x : X15) : VT W15 :=
  .pre (p38 (x.1, ())) (
  let t6 := f38 (x.1, ())
  .ite t6.1.1 (
    .pre (p38 (x.1, ())) (
    let t12 := f38 (x.1, ())
    .ite t12.1.1 (
      .pre (p38 (x.2.1, ())) (
      let t15 := f38 (x.2.1, ())
      .ret ((t15.1.1, ()), (())))
    ) (
      .ret ((false, ()), (()))
    ))
  ) (
    .pre (p38 (x.2.1, ())) (
    let t9 := f38 (x.2.1, ())
    .ite t9.1.1 (
      .pre (p38 (x.1, ())) (
      let t12_1 := f38 (x.1, ())
      .ite t12_1.1.1 (
        .pre (p38 (x.2.1, ())) (
        let t15_1 := f38 (x.2.1, ())
        .ret ((t15_1.1.1, ()), (())))
      ) (
        .ret ((false, ()), (()))
      ))
    ) (
      .pre (p39 (x.1, ())) (
      let t18 := f39 (x.1, ())
      .pre (p39 (x.2.1, ())) (
      let t20 := f39 (x.2.1, ())
      let t21 := decide (t18.1.1 = t20.1.1)
      .ret ((t21, ()), (()))))
    ))
  ))
noncomputable def pp15 (x : X15) : List Prop := [(tr15 pp38 ff38 pp39 ff39 x).U]
noncomputable def ff15 (x : X15) : W15 := (tr15 pp38 ff38 pp39 ff39 x).W
noncomputable def s15 : FSpec := ⟨P15, R15, pp15, ff15⟩
def E15 (p38 : X38 → List Prop) (f38 : X38 → W38) (p39 : X39 → List Prop) (f39 : X39 → W39) : Env := fun f => get1 [(38, ⟨P38, R38, p38, f38⟩), (39, ⟨P39, R39, p39, f39⟩)] f
set_option maxRecDepth 100000 in
theorem e15 (p38 : X38 → List Prop) (f38 : X38 → W38) (p39 : X39 → List Prop) (f39 : X39 → W39) (x : X15) (Q : RsT R15 → OsT P15 → Prop) : evFun TT (E15 p38 f38 p39 f39) Try.f15.ntmps (fun _ => none) (bodyOf Try.f15) Try.f15.results.toList P15 R15 x Q = (tr15 p38 f38 p39 f39 x).V (fun w => Q w.1 w.2) := by kernel_rfl
set_option maxRecDepth 100000 in
theorem ok15 : EnvOK Try.prog (E15 pp38 ff38 pp39 ff39) := envOK_of (by
  intro p hp
  simp only [List.mem_cons, List.not_mem_nil, or_false] at hp
  rcases hp with rfl | rfl
  · exact snd38
  · exact snd39)
theorem b15 (x : X15) (h : (tr15 pp38 ff38 pp39 ff39 x).U) : Holds (evFun TT (E15 pp38 ff38 pp39 ff39) Try.f15.ntmps (fun _ => none) (bodyOf Try.f15) Try.f15.results.toList P15 R15 x (fun r o => (r, o) = (tr15 pp38 ff38 pp39 ff39 x).W)) := by
  constructor; rw [e15]; exact VT.sound _ h rfl
set_option maxRecDepth 100000 in
theorem snd15 : Sound Try.prog 15 s15 := sound_h (fs := s15) tt_ok mixed ok15 Try.func15 rfl (by kernel_rfl) (ann := fun _ _ => none) fun x h => b15 x (h _ (List.mem_singleton.2 rfl))
end Go.Proofs.Ytmlolnaannoifaa

/- A function of the program as a plain function. Written by wip/gen/gen.py. -/
namespace Go.Proofs.Ytmlolnaannoifaa

/- 3 loop.example/g01193/laws.FnScenesMoved -/
abbrev P3 : List PK := [.val (.sl (.int .u8)), .val (.sl (.int .u8))]
abbrev R3 : List RK := [.one .bool]
abbrev X3 : Type := List Int × List Int × Unit
abbrev W3 : Type := (Bool × Unit) × Unit
abbrev K3_r9 : Type := Int × Bool × Int × Int × (List (ByteArray × (List (Int × Int × Int × List Nat × Unit)) × (List (Int × Nat × Nat × Nat × Unit)) × Unit)) × Nat × Nat × Nat × (List (Int × Int × Int × List Nat × Unit)) × Unit
abbrev K3_r22 : Type := Int × Nat × Nat × Int × (List (ByteArray × (List (Int × Int × Int × List Nat × Unit)) × (List (Int × Nat × Nat × Nat × Unit)) × Unit)) × Nat × Nat × Nat × Unit
noncomputable def lp3_1 (p6 : X6 → List Prop) (f6 : X6 → W6) (p7 : X7 → List Prop) (f7 : X7 → W7) (p8 : X8 → List Prop) (f8 : X8 → W8) (p9 : X9 → List Prop) (f9 : X9 → W9) (p10 : X10 → List Prop) (f10 : X10 → W10) (p11 : X11 → List Prop) (f11 : X11 → W11) (p12 : X12 → List Prop) (f12 : X12 → W12) (p13 : X13 → List Prop) (f13 : X13 → W13) (p14 : X14 → List Prop) (f14 : X14 → W14) (p15 : X15 → List Prop) (f15 : X15 → W15) (x : X3) (k : K3_r22) : VT (K3_r22 ⊕ W3) :=
  let t92 := (k.2.2.2.2.1.length : Int)
  let t93 := decide (k.2.2.2.1 < t92)
  .ite t93 (
    .step (0 ≤ k.2.2.2.1) (
    .step (k.2.2.2.1 < k.2.2.2.2.1.length) (
    let t100 := k.2.2.2.2.1.getD k.2.2.2.1.toNat ((ByteArray.empty, [], [], ()) : (ByteArray × (List (Int × Int × Int × List Nat × Unit)) × (List (Int × Nat × Nat × Nat × Unit)) × Unit))
    .pre (p13 ((t100.1, t100.2.1, t100.2.2.1, ()), k.1, ())) (
    let t103 := f13 ((t100.1, t100.2.1, t100.2.2.1, ()), k.1, ())
    .step (0 ≤ k.2.2.2.1) (
    .step (k.2.2.2.1 < k.2.2.2.2.1.length) (
    let t110 := k.2.2.2.2.1.getD k.2.2.2.1.toNat ((ByteArray.empty, [], [], ()) : (ByteArray × (List (Int × Int × Int × List Nat × Unit)) × (List (Int × Nat × Nat × Nat × Unit)) × Unit))
    .pre (p14 ((k.2.2.2.2.2.1, k.2.2.2.2.2.2.1, k.2.2.2.2.2.2.2.1, ()), (t103.1.1.1, t103.1.1.2.1, t103.1.1.2.2.1, ()), ())) (
    let t115 := f14 ((k.2.2.2.2.2.1, k.2.2.2.2.2.2.1, k.2.2.2.2.2.2.2.1, ()), (t103.1.1.1, t103.1.1.2.1, t103.1.1.2.2.1, ()), ())
    .pre (p12 ((t110.2.1, ()), (t115.1.1.1, t115.1.1.2.1, t115.1.1.2.2.1, ()), ())) (
    let t116 := f12 ((t110.2.1, ()), (t115.1.1.1, t115.1.1.2.1, t115.1.1.2.2.1, ()), ())
    let t120 := !t103.1.2.1
    .ite t120 (
      .exit (
      .ret ((false, ()), (())))
    ) (
      let t123 := !t116.1.2.1
      .ite t123 (
        .exit (
        .ret ((false, ()), (())))
      ) (
        let t126 := decide (k.2.2.2.1 = (0 : Int))
        .ite t126 (
          let t95 := IntKind.wrap .i64 (k.2.2.2.1 + (1 : Int))
          .next (k.1, k.2.1, t116.1.1, t95, k.2.2.2.2.1, k.2.2.2.2.2.1, k.2.2.2.2.2.2.1, k.2.2.2.2.2.2.2.1, ()) (fun y q => True ∧ (k.1 = y.1) ∧ True ∧ (k.2.1 = y.2.1) ∧ (t116.1.1 = y.2.2.1) ∧ (t95 = y.2.2.2.1) ∧ ((k.2.2.2.2.1 = y.2.2.2.2.1) ∧ True) ∧ ((k.2.2.2.2.2.1 = y.2.2.2.2.2.1) ∧ (k.2.2.2.2.2.2.1 = y.2.2.2.2.2.2.1) ∧ (k.2.2.2.2.2.2.2.1 = y.2.2.2.2.2.2.2.1) ∧ True) ∧ q) (fun _ h => ⟨trivial, rfl, trivial, rfl, rfl, rfl, ⟨rfl, trivial⟩, ⟨rfl, rfl, rfl, trivial⟩, h⟩)
        ) (
          let t130 := flss .f32 t116.1.1 k.2.2.1
          .ite t130 (
            let t95_1 := IntKind.wrap .i64 (k.2.2.2.1 + (1 : Int))
            .next (k.1, k.2.1, t116.1.1, t95_1, k.2.2.2.2.1, k.2.2.2.2.2.1, k.2.2.2.2.2.2.1, k.2.2.2.2.2.2.2.1, ()) (fun y q => True ∧ (k.1 = y.1) ∧ True ∧ (k.2.1 = y.2.1) ∧ (t116.1.1 = y.2.2.1) ∧ (t95_1 = y.2.2.2.1) ∧ ((k.2.2.2.2.1 = y.2.2.2.2.1) ∧ True) ∧ ((k.2.2.2.2.2.1 = y.2.2.2.2.2.1) ∧ (k.2.2.2.2.2.2.1 = y.2.2.2.2.2.2.1) ∧ (k.2.2.2.2.2.2.2.1 = y.2.2.2.2.2.2.2.1) ∧ True) ∧ q) (fun _ h => ⟨trivial, rfl, trivial, rfl, rfl, rfl, ⟨rfl, trivial⟩, ⟨rfl, rfl, rfl, trivial⟩, h⟩)
          ) (
            let t95_2 := IntKind.wrap .i64 (k.2.2.2.1 + (1 : Int))
            .next (k.1, k.2.1, k.2.2.1, t95_2, k.2.2.2.2.1, k.2.2.2.2.2.1, k.2.2.2.2.2.2.1, k.2.2.2.2.2.2.2.1, ()) (fun y q => True ∧ (k.1 = y.1) ∧ True ∧ (k.2.1 = y.2.1) ∧ (k.2.2.1 = y.2.2.1) ∧ (t95_2 = y.2.2.2.1) ∧ ((k.2.2.2.2.1 = y.2.2.2.2.1) ∧ True) ∧ ((k.2.2.2.2.2.1 = y.2.2.2.2.2.1) ∧ (k.2.2.2.2.2.2.1 = y.2.2.2.2.2.2.1) ∧ (k.2.2.2.2.2.2.2.1 = y.2.2.2.2.2.2.2.1) ∧ True) ∧ q) (fun _ h => ⟨trivial, rfl, trivial, rfl, rfl, rfl, ⟨rfl, trivial⟩, ⟨rfl, rfl, rfl, trivial⟩, h⟩)
          )
        )
      )
    ))))))))
  ) (
    .exit (
    .pre (p15 (k.2.1, k.2.2.1, ())) (
    let t135 := f15 (k.2.1, k.2.2.1, ())
    .ret ((t135.1.1, ()), (()))))
  )
noncomputable def lp3_2 (p6 : X6 → List Prop) (f6 : X6 → W6) (p7 : X7 → List Prop) (f7 : X7 → W7) (p8 : X8 → List Prop) (f8 : X8 → W8) (p9 : X9 → List Prop) (f9 : X9 → W9) (p10 : X10 → List Prop) (f10 : X10 → W10) (p11 : X11 → List Prop) (f11 : X11 → W11) (p12 : X12 → List Prop) (f12 : X12 → W12) (p13 : X13 → List Prop) (f13 : X13 → W13) (p14 : X14 → List Prop) (f14 : X14 → W14) (p15 : X15 → List Prop) (f15 : X15 → W15) (x : X3) (k : K3_r9) : VT (K3_r9 ⊕ W3) :=
  let t38 := (k.2.2.2.2.1.length : Int)
  let t39 := decide (k.2.2.2.1 < t38)
  .ite t39 (
    .step (0 ≤ k.2.2.2.1) (
    .step (k.2.2.2.1 < k.2.2.2.2.1.length) (
    let t46 := k.2.2.2.2.1.getD k.2.2.2.1.toNat ((ByteArray.empty, [], [], ()) : (ByteArray × (List (Int × Int × Int × List Nat × Unit)) × (List (Int × Nat × Nat × Nat × Unit)) × Unit))
    let t50 := (t46.2.1.length : Int)
    let t51 := IntKind.wrap .i64 (t50 + (1 : Int))
    let t52 := IntKind.wrap .i64 (k.2.2.1 + t51)
    let t41 := IntKind.wrap .i64 (k.2.2.2.1 + (1 : Int))
    .next (k.1, k.2.1, t52, t41, k.2.2.2.2.1, k.2.2.2.2.2.1, k.2.2.2.2.2.2.1, k.2.2.2.2.2.2.2.1, k.2.2.2.2.2.2.2.2.1, ()) (fun y q => True ∧ (k.1 = y.1) ∧ True ∧ True ∧ (k.2.1 = y.2.1) ∧ (t52 = y.2.2.1) ∧ (t41 = y.2.2.2.1) ∧ ((k.2.2.2.2.1 = y.2.2.2.2.1) ∧ True) ∧ ((k.2.2.2.2.2.1 = y.2.2.2.2.2.1) ∧ (k.2.2.2.2.2.2.1 = y.2.2.2.2.2.2.1) ∧ (k.2.2.2.2.2.2.2.1 = y.2.2.2.2.2.2.2.1) ∧ True) ∧ ((k.2.2.2.2.2.2.2.2.1 = y.2.2.2.2.2.2.2.2.1) ∧ True) ∧ q) (fun _ h => ⟨trivial, rfl, trivial, trivial, rfl, rfl, rfl, ⟨rfl, trivial⟩, ⟨rfl, rfl, rfl, trivial⟩, ⟨rfl, trivial⟩, h⟩)))
  ) (
    .exit (
    let t56 := (k.2.2.2.2.1.length : Int)
    let t57 := IntKind.wrap .i64 (t56 - (1 : Int))
    let t58 := IntKind.wrap .i64 (k.2.2.1 + t57)
    let t62 := (k.2.2.2.2.1.length : Int)
    let t63 := decide ((0 : Int) < t62)
    .ite t63 (
      let t66 := decide (t58 ≤ (16 : Int))
      let t68 := !(k.2.1 == t66)
      .ite t68 (
        .ret ((false, ()), (()))
      ) (
        let t70 := !k.2.1
        .ite t70 (
          .pre (p11 ((k.2.2.2.2.1, ()), ())) (
          let t72 := f11 ((k.2.2.2.2.1, ()), ())
          .ret ((t72.1.1, ()), (())))
        ) (
          .pre (p12 ((k.2.2.2.2.2.2.2.2.1, ()), (k.2.2.2.2.2.1, k.2.2.2.2.2.2.1, k.2.2.2.2.2.2.2.1, ()), ())) (
          let t76 := f12 ((k.2.2.2.2.2.2.2.2.1, ()), (k.2.2.2.2.2.1, k.2.2.2.2.2.2.1, k.2.2.2.2.2.2.2.1, ()), ())
          let t80 := !t76.1.2.1
          .ite t80 (
            .ret ((false, ()), (()))
          ) (
            let t84 := (k.2.2.2.2.2.2.2.2.1.length : Int)
            let t86 := !decide (t84 = t58)
            .ite t86 (
              .ret ((false, ()), (()))
            ) (
              .loop (k.1, t76.1.1, t76.1.1, (0 : Int), k.2.2.2.2.1, k.2.2.2.2.2.1, k.2.2.2.2.2.2.1, k.2.2.2.2.2.2.2.1, ()) (fun y q => True ∧ (k.1 = y.1) ∧ True ∧ (t76.1.1 = y.2.1) ∧ (t76.1.1 = y.2.2.1) ∧ ((0 : Int) = y.2.2.2.1) ∧ ((k.2.2.2.2.1 = y.2.2.2.2.1) ∧ True) ∧ ((k.2.2.2.2.2.1 = y.2.2.2.2.2.1) ∧ (k.2.2.2.2.2.2.1 = y.2.2.2.2.2.2.1) ∧ (k.2.2.2.2.2.2.2.1 = y.2.2.2.2.2.2.2.1) ∧ True) ∧ q) (fun _ h => ⟨trivial, rfl, trivial, rfl, rfl, rfl, ⟨rfl, trivial⟩, ⟨rfl, rfl, rfl, trivial⟩, h⟩) ((false, ()), (())) (lp3_1 p6 f6 p7 f7 p8 f8 p9 f9 p10 f10 p11 f11 p12 f12 p13 f13 p14 f14 p15 f15 x)
            )
          ))
        )
      )
    ) (
      let t68_1 := !(k.2.1 == false)
      .ite t68_1 (
        .ret ((false, ()), (()))
      ) (
        let t70_1 := !k.2.1
        .ite t70_1 (
          .pre (p11 ((k.2.2.2.2.1, ()), ())) (
          let t72_1 := f11 ((k.2.2.2.2.1, ()), ())
          .ret ((t72_1.1.1, ()), (())))
        ) (
          .pre (p12 ((k.2.2.2.2.2.2.2.2.1, ()), (k.2.2.2.2.2.1, k.2.2.2.2.2.2.1, k.2.2.2.2.2.2.2.1, ()), ())) (
          let t76_1 := f12 ((k.2.2.2.2.2.2.2.2.1, ()), (k.2.2.2.2.2.1, k.2.2.2.2.2.2.1, k.2.2.2.2.2.2.2.1, ()), ())
          let t80_1 := !t76_1.1.2.1
          .ite t80_1 (
            .ret ((false, ()), (()))
          ) (
            let t84_1 := (k.2.2.2.2.2.2.2.2.1.length : Int)
            let t86_1 := !decide (t84_1 = t58)
            .ite t86_1 (
              .ret ((false, ()), (()))
            ) (
              .loop (k.1, t76_1.1.1, t76_1.1.1, (0 : Int), k.2.2.2.2.1, k.2.2.2.2.2.1, k.2.2.2.2.2.2.1, k.2.2.2.2.2.2.2.1, ()) (fun y q => True ∧ (k.1 = y.1) ∧ True ∧ (t76_1.1.1 = y.2.1) ∧ (t76_1.1.1 = y.2.2.1) ∧ ((0 : Int) = y.2.2.2.1) ∧ ((k.2.2.2.2.1 = y.2.2.2.2.1) ∧ True) ∧ ((k.2.2.2.2.2.1 = y.2.2.2.2.2.1) ∧ (k.2.2.2.2.2.2.1 = y.2.2.2.2.2.2.1) ∧ (k.2.2.2.2.2.2.2.1 = y.2.2.2.2.2.2.2.1) ∧ True) ∧ q) (fun _ h => ⟨trivial, rfl, trivial, rfl, rfl, rfl, ⟨rfl, trivial⟩, ⟨rfl, rfl, rfl, trivial⟩, h⟩) ((false, ()), (())) (lp3_1 p6 f6 p7 f7 p8 f8 p9 f9 p10 f10 p11 f11 p12 f12 p13 f13 p14 f14 p15 f15 x)
            )
          ))
        )
      )
    ))
  )
def an3 (x : X3) : Nat → Option Ann := fun i =>
  bif Nat.beq i 9 then some ⟨K3_r9, fun k => ⟨[(5, .one (.ptr 65632 0)), (6, .one (.d (.int .i64) k.1)), (7, .one (.ptr 65664 0)), (8, .one (.ptr 65680 0)), (9, .one (.d .bool k.2.1)), (10, .one (.d (.int .i64) k.2.2.1)), (11, .one (.d (.int .i64) k.2.2.2.1))], [(65632, .box [(.d (.sl (.pair .str (.pair (.sl (.pair (.int .i64) (.pair (.int .i64) (.pair (.int .i64) (.pair (.sl (.flt .f32)) .unit))))) (.pair (.sl (.pair (.int .i64) (.pair (.flt .f32) (.pair (.flt .f32) (.pair (.flt .f32) .unit))))) .unit)))) k.2.2.2.2.1)]), (65664, .box [(.d (.flt .f32) k.2.2.2.2.2.1), (.d (.flt .f32) k.2.2.2.2.2.2.1), (.d (.flt .f32) k.2.2.2.2.2.2.2.1)]), (65680, .box [(.d (.sl (.pair (.int .i64) (.pair (.int .i64) (.pair (.int .i64) (.pair (.sl (.flt .f32)) .unit))))) k.2.2.2.2.2.2.2.2.1)])]⟩, []⟩ else
  bif Nat.beq i 22 then some ⟨K3_r22, fun k => ⟨[(5, .one (.ptr 65632 0)), (6, .one (.d (.int .i64) k.1)), (7, .one (.ptr 65664 0)), (12, .one (.d (.flt .f32) k.2.1)), (14, .one (.d (.flt .f32) k.2.2.1)), (15, .one (.d (.int .i64) k.2.2.2.1))], [(65632, .box [(.d (.sl (.pair .str (.pair (.sl (.pair (.int .i64) (.pair (.int .i64) (.pair (.int .i64) (.pair (.sl (.flt .f32)) .unit))))) (.pair (.sl (.pair (.int .i64) (.pair (.flt .f32) (.pair (.flt .f32) (.pair (.flt .f32) .unit))))) .unit)))) k.2.2.2.2.1)]), (65664, .box [(.d (.flt .f32) k.2.2.2.2.2.1), (.d (.flt .f32) k.2.2.2.2.2.2.1), (.d (.flt .f32) k.2.2.2.2.2.2.2.1)])]⟩, []⟩ else
  none
noncomputable def tr3 (p6 : X6 → List Prop) (f6 : X6 → W6) (p7 : X7 → List Prop) (f7 : X7 → W7) (p8 : X8 → List Prop) (f8 : X8 → W8) (p9 : X9 → List Prop) (f9 : X9 → W9) (p10 : X10 → List Prop) (f10 : X10 → W10) (p11 : X11 → List Prop) (f11 : X11 → W11) (p12 : X12 → List Prop) (f12 : X12 → W12) (p13 : X13 → List Prop) (f13 : X13 → W13) (p14 : X14 → List Prop) (f14 : X14 → W14) (p15 : X15 → List Prop) (f15 : X15 → W15) (x : X3) : VT W3 :=
  .pre (p6 (x.1, x.2.1, ())) (
  let t22 := f6 (x.1, x.2.1, ())
  .ite t22.1.1 (
    .ret ((true, ()), (()))
  ) (
    .pre (p7 (x.1, ())) (
    let t24 := f7 (x.1, ())
    .pre (p8 (x.2.1, (40 : Int), (20 : Int), ())) (
    let t26 := f8 (x.2.1, (40 : Int), (20 : Int), ())
    .pre (p9 (x.2.1, ())) (
    let t28 := f9 (x.2.1, ())
    .pre (p10 ((t24.1.1.1, ()), t26.1.1, ())) (
    let t32 := f10 ((t24.1.1.1, ()), t26.1.1, ())
    .loop (t26.1.1, t32.1.2.1, (0 : Int), (0 : Int), t24.1.1.1, t28.1.1.1, t28.1.1.2.1, t28.1.1.2.2.1, t32.1.1.1, ()) (fun y q => True ∧ (t26.1.1 = y.1) ∧ True ∧ True ∧ (t32.1.2.1 = y.2.1) ∧ ((0 : Int) = y.2.2.1) ∧ ((0 : Int) = y.2.2.2.1) ∧ ((t24.1.1.1 = y.2.2.2.2.1) ∧ True) ∧ ((t28.1.1.1 = y.2.2.2.2.2.1) ∧ (t28.1.1.2.1 = y.2.2.2.2.2.2.1) ∧ (t28.1.1.2.2.1 = y.2.2.2.2.2.2.2.1) ∧ True) ∧ ((t32.1.1.1 = y.2.2.2.2.2.2.2.2.1) ∧ True) ∧ q) (fun _ h => ⟨trivial, rfl, trivial, trivial, rfl, rfl, rfl, ⟨rfl, trivial⟩, ⟨rfl, rfl, rfl, trivial⟩, ⟨rfl, trivial⟩, h⟩) ((false, ()), (())) (lp3_2 p6 f6 p7 f7 p8 f8 p9 f9 p10 f10 p11 f11 p12 f12 p13 f13 p14 f14 p15 f15 x)))))
  ))
noncomputable def pp3 (x : X3) : List Prop := [(tr3 pp6 ff6 pp7 ff7 pp8 ff8 pp9 ff9 pp10 ff10 pp11 ff11 pp12 ff12 pp13 ff13 pp14 ff14 pp15 ff15 x).U]
noncomputable def ff3 (x : X3) : W3 := (tr3 pp6 ff6 pp7 ff7 pp8 ff8 pp9 ff9 pp10 ff10 pp11 ff11 pp12 ff12 pp13 ff13 pp14 ff14 pp15 ff15 x).W
noncomputable def s3 : FSpec := ⟨P3, R3, pp3, ff3⟩
def E3 (p6 : X6 → List Prop) (f6 : X6 → W6) (p7 : X7 → List Prop) (f7 : X7 → W7) (p8 : X8 → List Prop) (f8 : X8 → W8) (p9 : X9 → List Prop) (f9 : X9 → W9) (p10 : X10 → List Prop) (f10 : X10 → W10) (p11 : X11 → List Prop) (f11 : X11 → W11) (p12 : X12 → List Prop) (f12 : X12 → W12) (p13 : X13 → List Prop) (f13 : X13 → W13) (p14 : X14 → List Prop) (f14 : X14 → W14) (p15 : X15 → List Prop) (f15 : X15 → W15) : Env := fun f => get1 [(6, ⟨P6, R6, p6, f6⟩), (7, ⟨P7, R7, p7, f7⟩), (8, ⟨P8, R8, p8, f8⟩), (9, ⟨P9, R9, p9, f9⟩), (10, ⟨P10, R10, p10, f10⟩), (11, ⟨P11, R11, p11, f11⟩), (12, ⟨P12, R12, p12, f12⟩), (13, ⟨P13, R13, p13, f13⟩), (14, ⟨P14, R14, p14, f14⟩), (15, ⟨P15, R15, p15, f15⟩)] f
set_option maxRecDepth 100000 in
theorem e3 (p6 : X6 → List Prop) (f6 : X6 → W6) (p7 : X7 → List Prop) (f7 : X7 → W7) (p8 : X8 → List Prop) (f8 : X8 → W8) (p9 : X9 → List Prop) (f9 : X9 → W9) (p10 : X10 → List Prop) (f10 : X10 → W10) (p11 : X11 → List Prop) (f11 : X11 → W11) (p12 : X12 → List Prop) (f12 : X12 → W12) (p13 : X13 → List Prop) (f13 : X13 → W13) (p14 : X14 → List Prop) (f14 : X14 → W14) (p15 : X15 → List Prop) (f15 : X15 → W15) (x : X3) (Q : RsT R3 → OsT P3 → Prop) : evFun TT (E3 p6 f6 p7 f7 p8 f8 p9 f9 p10 f10 p11 f11 p12 f12 p13 f13 p14 f14 p15 f15) Try.f3.ntmps (an3 x) (bodyOf Try.f3) Try.f3.results.toList P3 R3 x Q = (tr3 p6 f6 p7 f7 p8 f8 p9 f9 p10 f10 p11 f11 p12 f12 p13 f13 p14 f14 p15 f15 x).V (fun w => Q w.1 w.2) := by kernel_rfl
set_option maxRecDepth 100000 in
theorem ok3 : EnvOK Try.prog (E3 pp6 ff6 pp7 ff7 pp8 ff8 pp9 ff9 pp10 ff10 pp11 ff11 pp12 ff12 pp13 ff13 pp14 ff14 pp15 ff15) := envOK_of (by
  intro p hp
  simp only [List.mem_cons, List.not_mem_nil, or_false] at hp
  rcases hp with rfl | rfl | rfl | rfl | rfl | rfl | rfl | rfl | rfl | rfl
  · exact snd6
  · exact snd7
  · exact snd8
  · exact snd9
  · exact snd10
  · exact snd11
  · exact snd12
  · exact snd13
  · exact snd14
  · exact snd15)
theorem b3 (x : X3) (h : (tr3 pp6 ff6 pp7 ff7 pp8 ff8 pp9 ff9 pp10 ff10 pp11 ff11 pp12 ff12 pp13 ff13 pp14 ff14 pp15 ff15 x).U) : Holds (evFun TT (E3 pp6 ff6 pp7 ff7 pp8 ff8 pp9 ff9 pp10 ff10 pp11 ff11 pp12 ff12 pp13 ff13 pp14 ff14 pp15 ff15) Try.f3.ntmps (an3 x) (bodyOf Try.f3) Try.f3.results.toList P3 R3 x (fun r o => (r, o) = (tr3 pp6 ff6 pp7 ff7 pp8 ff8 pp9 ff9 pp10 ff10 pp11 ff11 pp12 ff12 pp13 ff13 pp14 ff14 pp15 ff15 x).W)) := by
  constructor; rw [e3]; exact VT.sound _ h rfl
set_option maxRecDepth 100000 in
theorem snd3 : Sound Try.prog 3 s3 := sound_h (fs := s3) tt_ok mixed ok3 Try.func3 rfl (by kernel_rfl) (ann := an3) fun x h => b3 x (h _ (List.mem_singleton.2 rfl))
end Go.Proofs.Ytmlolnaannoifaa
