/- The functions of the program as plain functions and that they are so. -/
import Derived.Test.YtmlolnaannoifaaEv3
set_option linter.all false
set_option linter.unusedVariables false
set_option linter.unusedSimpArgs false

/- A function of the program as a plain function. Written by wip/gen/gen.py. -/
namespace Go.Proofs.Ytmlolnaannoifaa

/- 6 loop.example/g01193/laws.r8Long -/
abbrev P6 : List PK := [.val (.sl (.int .u8)), .val (.sl (.int .u8))]
abbrev R6 : List RK := [.one .bool]
abbrev X6 : Type := List Int × List Int × Unit
abbrev W6 : Type := (Bool × Unit) × Unit
noncomputable def tr6 (x : X6) : VT W6 :=
  let t6 := (x.1.length : Int)
  let t7 := decide ((48 : Int) < t6)
  .ite t7 (
    .ret ((true, ()), (()))
  ) (
    let t10 := (x.2.1.length : Int)
    let t11 := decide ((48 : Int) < t10)
    .ret ((t11, ()), (()))
  )
noncomputable def pp6 (x : X6) : List Prop := [(tr6 x).U]
noncomputable def ff6 (x : X6) : W6 := (tr6 x).W
noncomputable def s6 : FSpec := ⟨P6, R6, pp6, ff6⟩
def E6 : Env := fun f => get1 [] f
set_option maxRecDepth 100000 in
theorem e6 (x : X6) (Q : RsT R6 → OsT P6 → Prop) : evFun TT (E6) Try.f6.ntmps (fun _ => none) (bodyOf Try.f6) Try.f6.results.toList P6 R6 x Q = (tr6 x).V (fun w => Q w.1 w.2) := by kernel_rfl
set_option maxRecDepth 100000 in
theorem ok6 : EnvOK Try.prog E6 := envOK_of (by intro p hp; simp at hp)
theorem b6 (x : X6) (h : (tr6 x).U) : Holds (evFun TT (E6) Try.f6.ntmps (fun _ => none) (bodyOf Try.f6) Try.f6.results.toList P6 R6 x (fun r o => (r, o) = (tr6 x).W)) := by
  constructor; rw [e6]; exact VT.sound _ h rfl
set_option maxRecDepth 100000 in
theorem snd6 : Sound Try.prog 6 s6 := sound_h (fs := s6) tt_ok mixed ok6 Try.func6 rfl (by kernel_rfl) (ann := fun _ _ => none) fun x h => b6 x (h _ (List.mem_singleton.2 rfl))
end Go.Proofs.Ytmlolnaannoifaa

/- A function of the program as a plain function. Written by wip/gen/gen.py. -/
namespace Go.Proofs.Ytmlolnaannoifaa

/- 27 loop.example/g01193/spec.l00From -/
abbrev P27 : List PK := [.val (.sl (.int .u8))]
abbrev R27 : List RK := [.nb (.pair (.sl (.int .u8)) (.pair (.int .i64) (.pair (.int .u64) .unit)))]
abbrev X27 : Type := List Int × Unit
abbrev W27 : Type := ((List Int × Int × Int × Unit) × Unit) × Unit
noncomputable def tr27 (x : X27) : VT W27 :=
  .ret (((x.1, (0 : Int), (0 : Int), ()), ()), (()))
noncomputable def pp27 (x : X27) : List Prop := [(tr27 x).U]
noncomputable def ff27 (x : X27) : W27 := (tr27 x).W
noncomputable def s27 : FSpec := ⟨P27, R27, pp27, ff27⟩
def E27 : Env := fun f => get1 [] f
set_option maxRecDepth 100000 in
theorem e27 (x : X27) (Q : RsT R27 → OsT P27 → Prop) : evFun TT (E27) Try.f27.ntmps (fun _ => none) (bodyOf Try.f27) Try.f27.results.toList P27 R27 x Q = (tr27 x).V (fun w => Q w.1 w.2) := by kernel_rfl
set_option maxRecDepth 100000 in
theorem ok27 : EnvOK Try.prog E27 := envOK_of (by intro p hp; simp at hp)
theorem b27 (x : X27) (h : (tr27 x).U) : Holds (evFun TT (E27) Try.f27.ntmps (fun _ => none) (bodyOf Try.f27) Try.f27.results.toList P27 R27 x (fun r o => (r, o) = (tr27 x).W)) := by
  constructor; rw [e27]; exact VT.sound _ h rfl
set_option maxRecDepth 100000 in
theorem snd27 : Sound Try.prog 27 s27 := sound_h (fs := s27) tt_ok mixed ok27 Try.func27 rfl (by kernel_rfl) (ann := fun _ _ => none) fun x h => b27 x (h _ (List.mem_singleton.2 rfl))
end Go.Proofs.Ytmlolnaannoifaa

/- A function of the program as a plain function. Written by wip/gen/gen.py. -/
namespace Go.Proofs.Ytmlolnaannoifaa

/- 78 (*loop.example/g01193/spec.l00Src).next -/
abbrev P78 : List PK := [.box (.pair (.sl (.int .u8)) (.pair (.int .i64) (.pair (.int .u64) .unit)))]
abbrev R78 : List RK := [.one (.int .i64)]
abbrev X78 : Type := (List Int × Int × Int × Unit) × Unit
abbrev W78 : Type := (Int × Unit) × ((List Int × Int × Int × Unit) × Unit)
noncomputable def tr78 (x : X78) : VT W78 :=
  let t12 := (x.1.1.length : Int)
  let t13 := decide (x.1.2.1 < t12)
  .ite t13 (
    .step (0 ≤ x.1.2.1) (
    .step (x.1.2.1 < x.1.1.length) (
    let t22 := x.1.1.getD x.1.2.1.toNat (0 : Int)
    let t24 := IntKind.wrap .i64 t22
    let t29 := IntKind.wrap .i64 (x.1.2.1 + (1 : Int))
    let t37 := IntKind.wrap .u64 (x.1.2.2.1 * (6364136223846793005 : Int))
    let t39 := IntKind.wrap .u64 t24
    let t40 := IntKind.wrap .u64 (t37 + t39)
    let t41 := IntKind.wrap .u64 (t40 + (1442695040888963407 : Int))
    let t52 := (x.1.1.length : Int)
    let t53 := decide (t29 ≤ t52)
    .ite t53 (
      .ret ((t24, ()), ((x.1.1, t29, t41, ()), ()))
    ) (
      .step (0 ≤ (40 : Int)) (
      let t59 := ishr .u64 t41 (40 : Int)
      let t60 := ibits .and .u64 t59 (255 : Int)
      let t61 := IntKind.wrap .i64 t60
      .ret ((t61, ()), ((x.1.1, t29, t41, ()), ())))
    )))
  ) (
    let t29_1 := IntKind.wrap .i64 (x.1.2.1 + (1 : Int))
    let t37_1 := IntKind.wrap .u64 (x.1.2.2.1 * (6364136223846793005 : Int))
    let t39_1 := IntKind.wrap .u64 (0 : Int)
    let t40_1 := IntKind.wrap .u64 (t37_1 + t39_1)
    let t41_1 := IntKind.wrap .u64 (t40_1 + (1442695040888963407 : Int))
    let t52_1 := (x.1.1.length : Int)
    let t53_1 := decide (t29_1 ≤ t52_1)
    .ite t53_1 (
      .ret (((0 : Int), ()), ((x.1.1, t29_1, t41_1, ()), ()))
    ) (
      .step (0 ≤ (40 : Int)) (
      let t59_1 := ishr .u64 t41_1 (40 : Int)
      let t60_1 := ibits .and .u64 t59_1 (255 : Int)
      let t61_1 := IntKind.wrap .i64 t60_1
      .ret ((t61_1, ()), ((x.1.1, t29_1, t41_1, ()), ())))
    )
  )
noncomputable def pp78 (x : X78) : List Prop := [(tr78 x).U]
noncomputable def ff78 (x : X78) : W78 := (tr78 x).W
noncomputable def s78 : FSpec := ⟨P78, R78, pp78, ff78⟩
def E78 : Env := fun f => get1 [] f
set_option maxRecDepth 100000 in
theorem e78 (x : X78) (Q : RsT R78 → OsT P78 → Prop) : evFun TT (E78) Try.f78.ntmps (fun _ => none) (bodyOf Try.f78) Try.f78.results.toList P78 R78 x Q = (tr78 x).V (fun w => Q w.1 w.2) := by kernel_rfl
set_option maxRecDepth 100000 in
theorem ok78 : EnvOK Try.prog E78 := envOK_of (by intro p hp; simp at hp)
theorem b78 (x : X78) (h : (tr78 x).U) : Holds (evFun TT (E78) Try.f78.ntmps (fun _ => none) (bodyOf Try.f78) Try.f78.results.toList P78 R78 x (fun r o => (r, o) = (tr78 x).W)) := by
  constructor; rw [e78]; exact VT.sound _ h rfl
set_option maxRecDepth 100000 in
theorem snd78 : Sound Try.prog 78 s78 := sound_h (fs := s78) tt_ok mixed ok78 Try.func78 rfl (by kernel_rfl) (ann := fun _ _ => none) fun x h => b78 x (h _ (List.mem_singleton.2 rfl))
end Go.Proofs.Ytmlolnaannoifaa

/- A function of the program as a plain function. Written by wip/gen/gen.py. -/
namespace Go.Proofs.Ytmlolnaannoifaa

/- 46 (*loop.example/g01193/spec.l00Src).pick -/
abbrev P46 : List PK := [.box (.pair (.sl (.int .u8)) (.pair (.int .i64) (.pair (.int .u64) .unit))), .val (.int .i64)]
abbrev R46 : List RK := [.one (.int .i64)]
abbrev X46 : Type := (List Int × Int × Int × Unit) × Int × Unit
abbrev W46 : Type := (Int × Unit) × ((List Int × Int × Int × Unit) × Unit)
noncomputable def tr46 (p78 : X78 → List Prop) (f78 : X78 → W78) (x : X46) : VT W46 :=
  let t7 := decide (x.2.1 ≤ (1 : Int))
  .ite t7 (
    .ret (((0 : Int), ()), ((x.1.1, x.1.2.1, x.1.2.2.1, ()), ()))
  ) (
    .pre (p78 ((x.1.1, x.1.2.1, x.1.2.2.1, ()), ())) (
    let t9 := f78 ((x.1.1, x.1.2.1, x.1.2.2.1, ()), ())
    let t11 := decide ((200 : Int) < x.2.1)
    .ite t11 (
      let t13 := IntKind.wrap .i64 (t9.1.1 * (256 : Int))
      .pre (p78 ((t9.2.1.1, t9.2.1.2.1, t9.2.1.2.2.1, ()), ())) (
      let t15 := f78 ((t9.2.1.1, t9.2.1.2.1, t9.2.1.2.2.1, ()), ())
      let t16 := IntKind.wrap .i64 (t13 + t15.1.1)
      .step (x.2.1 ≠ 0) (
      let t19 := Int.tmod t16 x.2.1
      .ret ((t19, ()), ((t15.2.1.1, t15.2.1.2.1, t15.2.1.2.2.1, ()), ()))))
    ) (
      .step (x.2.1 ≠ 0) (
      let t19_1 := Int.tmod t9.1.1 x.2.1
      .ret ((t19_1, ()), ((t9.2.1.1, t9.2.1.2.1, t9.2.1.2.2.1, ()), ())))
    ))
  )
noncomputable def pp46 (x : X46) : List Prop := [(tr46 pp78 ff78 x).U]
noncomputable def ff46 (x : X46) : W46 := (tr46 pp78 ff78 x).W
noncomputable def s46 : FSpec := ⟨P46, R46, pp46, ff46⟩
def E46 (p78 : X78 → List Prop) (f78 : X78 → W78) : Env := fun f => get1 [(78, ⟨P78, R78, p78, f78⟩)] f
set_option maxRecDepth 100000 in
theorem e46 (p78 : X78 → List Prop) (f78 : X78 → W78) (x : X46) (Q : RsT R46 → OsT P46 → Prop) : evFun TT (E46 p78 f78) Try.f46.ntmps (fun _ => none) (bodyOf Try.f46) Try.f46.results.toList P46 R46 x Q = (tr46 p78 f78 x).V (fun w => Q w.1 w.2) := by kernel_rfl
set_option maxRecDepth 100000 in
theorem ok46 : EnvOK Try.prog (E46 pp78 ff78) := envOK_of (by
  intro p hp
  simp only [List.mem_cons, List.not_mem_nil, or_false] at hp
  rcases hp with rfl
  · exact snd78)
theorem b46 (x : X46) (h : (tr46 pp78 ff78 x).U) : Holds (evFun TT (E46 pp78 ff78) Try.f46.ntmps (fun _ => none) (bodyOf Try.f46) Try.f46.results.toList P46 R46 x (fun r o => (r, o) = (tr46 pp78 ff78 x).W)) := by
  constructor; rw [e46]; exact VT.sound _ h rfl
set_option maxRecDepth 100000 in
theorem snd46 : Sound Try.prog 46 s46 := sound_h (fs := s46) tt_ok mixed ok46 Try.func46 rfl (by kernel_rfl) (ann := fun _ _ => none) fun x h => b46 x (h _ (List.mem_singleton.2 rfl))
end Go.Proofs.Ytmlolnaannoifaa

/- A function of the program as a plain function. Written by wip/gen/gen.py. -/
namespace Go.Proofs.Ytmlolnaannoifaa

/- 111 (*loop.example/g01193/spec.l00Src).one -/
abbrev P111 : List PK := [.box (.pair (.sl (.int .u8)) (.pair (.int .i64) (.pair (.int .u64) .unit))), .val (.int .i64)]
abbrev R111 : List RK := [.one .bool]
abbrev X111 : Type := (List Int × Int × Int × Unit) × Int × Unit
abbrev W111 : Type := (Bool × Unit) × ((List Int × Int × Int × Unit) × Unit)
noncomputable def tr111 (p46 : X46 → List Prop) (f46 : X46 → W46) (x : X111) : VT W111 :=
  .pre (p46 ((x.1.1, x.1.2.1, x.1.2.2.1, ()), x.2.1, ())) (
  let t7 := f46 ((x.1.1, x.1.2.1, x.1.2.2.1, ()), x.2.1, ())
  let t8 := decide (t7.1.1 = (0 : Int))
  .ret ((t8, ()), ((t7.2.1.1, t7.2.1.2.1, t7.2.1.2.2.1, ()), ())))
noncomputable def pp111 (x : X111) : List Prop := [(tr111 pp46 ff46 x).U]
noncomputable def ff111 (x : X111) : W111 := (tr111 pp46 ff46 x).W
noncomputable def s111 : FSpec := ⟨P111, R111, pp111, ff111⟩
def E111 (p46 : X46 → List Prop) (f46 : X46 → W46) : Env := fun f => get1 [(46, ⟨P46, R46, p46, f46⟩)] f
set_option maxRecDepth 100000 in
theorem e111 (p46 : X46 → List Prop) (f46 : X46 → W46) (x : X111) (Q : RsT R111 → OsT P111 → Prop) : evFun TT (E111 p46 f46) Try.f111.ntmps (fun _ => none) (bodyOf Try.f111) Try.f111.results.toList P111 R111 x Q = (tr111 p46 f46 x).V (fun w => Q w.1 w.2) := by kernel_rfl
set_option maxRecDepth 100000 in
theorem ok111 : EnvOK Try.prog (E111 pp46 ff46) := envOK_of (by
  intro p hp
  simp only [List.mem_cons, List.not_mem_nil, or_false] at hp
  rcases hp with rfl
  · exact snd46)
theorem b111 (x : X111) (h : (tr111 pp46 ff46 x).U) : Holds (evFun TT (E111 pp46 ff46) Try.f111.ntmps (fun _ => none) (bodyOf Try.f111) Try.f111.results.toList P111 R111 x (fun r o => (r, o) = (tr111 pp46 ff46 x).W)) := by
  constructor; rw [e111]; exact VT.sound _ h rfl
set_option maxRecDepth 100000 in
theorem snd111 : Sound Try.prog 111 s111 := sound_h (fs := s111) tt_ok mixed ok111 Try.func111 rfl (by kernel_rfl) (ann := fun _ _ => none) fun x h => b111 x (h _ (List.mem_singleton.2 rfl))
end Go.Proofs.Ytmlolnaannoifaa

/- A function of the program as a plain function. Written by wip/gen/gen.py. -/
namespace Go.Proofs.Ytmlolnaannoifaa

/- 149 loop.example/g01193/spec.l00In -/
abbrev P149 : List PK := [.val (.int .i64), .val (.int .i64), .val (.int .i64)]
abbrev R149 : List RK := [.one .bool]
abbrev X149 : Type := Int × Int × Int × Unit
abbrev W149 : Type := (Bool × Unit) × Unit
noncomputable def tr149 (x : X149) : VT W149 :=
  let t9 := decide (x.2.1 ≤ x.1)
  .ite t9 (
    let t13 := decide (x.1 ≤ x.2.2.1)
    .ret ((t13, ()), (()))
  ) (
    .ret ((false, ()), (()))
  )
noncomputable def pp149 (x : X149) : List Prop := [(tr149 x).U]
noncomputable def ff149 (x : X149) : W149 := (tr149 x).W
noncomputable def s149 : FSpec := ⟨P149, R149, pp149, ff149⟩
def E149 : Env := fun f => get1 [] f
set_option maxRecDepth 100000 in
theorem e149 (x : X149) (Q : RsT R149 → OsT P149 → Prop) : evFun TT (E149) Try.f149.ntmps (fun _ => none) (bodyOf Try.f149) Try.f149.results.toList P149 R149 x Q = (tr149 x).V (fun w => Q w.1 w.2) := by kernel_rfl
set_option maxRecDepth 100000 in
theorem ok149 : EnvOK Try.prog E149 := envOK_of (by intro p hp; simp at hp)
theorem b149 (x : X149) (h : (tr149 x).U) : Holds (evFun TT (E149) Try.f149.ntmps (fun _ => none) (bodyOf Try.f149) Try.f149.results.toList P149 R149 x (fun r o => (r, o) = (tr149 x).W)) := by
  constructor; rw [e149]; exact VT.sound _ h rfl
set_option maxRecDepth 100000 in
theorem snd149 : Sound Try.prog 149 s149 := sound_h (fs := s149) tt_ok mixed ok149 Try.func149 rfl (by kernel_rfl) (ann := fun _ _ => none) fun x h => b149 x (h _ (List.mem_singleton.2 rfl))
end Go.Proofs.Ytmlolnaannoifaa

/- A function of the program as a plain function. Written by wip/gen/gen.py. -/
namespace Go.Proofs.Ytmlolnaannoifaa

/- 112 loop.example/g01193/spec.l02Axis -/
abbrev P112 : List PK := [.val (.int .i64)]
abbrev R112 : List RK := [.one .bool]
abbrev X112 : Type := Int × Unit
abbrev W112 : Type := (Bool × Unit) × Unit
noncomputable def tr112 (p149 : X149 → List Prop) (f149 : X149 → W149) (x : X112) : VT W112 :=
  .pre (p149 (x.1, (12 : Int), (14 : Int), ())) (
  let t4 := f149 (x.1, (12 : Int), (14 : Int), ())
  .ret ((t4.1.1, ()), (())))
noncomputable def pp112 (x : X112) : List Prop := [(tr112 pp149 ff149 x).U]
noncomputable def ff112 (x : X112) : W112 := (tr112 pp149 ff149 x).W
noncomputable def s112 : FSpec := ⟨P112, R112, pp112, ff112⟩
def E112 (p149 : X149 → List Prop) (f149 : X149 → W149) : Env := fun f => get1 [(149, ⟨P149, R149, p149, f149⟩)] f
set_option maxRecDepth 100000 in
theorem e112 (p149 : X149 → List Prop) (f149 : X149 → W149) (x : X112) (Q : RsT R112 → OsT P112 → Prop) : evFun TT (E112 p149 f149) Try.f112.ntmps (fun _ => none) (bodyOf Try.f112) Try.f112.results.toList P112 R112 x Q = (tr112 p149 f149 x).V (fun w => Q w.1 w.2) := by kernel_rfl
set_option maxRecDepth 100000 in
theorem ok112 : EnvOK Try.prog (E112 pp149 ff149) := envOK_of (by
  intro p hp
  simp only [List.mem_cons, List.not_mem_nil, or_false] at hp
  rcases hp with rfl
  · exact snd149)
theorem b112 (x : X112) (h : (tr112 pp149 ff149 x).U) : Holds (evFun TT (E112 pp149 ff149) Try.f112.ntmps (fun _ => none) (bodyOf Try.f112) Try.f112.results.toList P112 R112 x (fun r o => (r, o) = (tr112 pp149 ff149 x).W)) := by
  constructor; rw [e112]; exact VT.sound _ h rfl
set_option maxRecDepth 100000 in
theorem snd112 : Sound Try.prog 112 s112 := sound_h (fs := s112) tt_ok mixed ok112 Try.func112 rfl (by kernel_rfl) (ann := fun _ _ => none) fun x h => b112 x (h _ (List.mem_singleton.2 rfl))
end Go.Proofs.Ytmlolnaannoifaa

/- A function of the program as a plain function. Written by wip/gen/gen.py. -/
namespace Go.Proofs.Ytmlolnaannoifaa

/- 29 loop.example/g01193/spec.l01DrawSmall -/
abbrev P29 : List PK := [.box (.pair (.sl (.int .u8)) (.pair (.int .i64) (.pair (.int .u64) .unit)))]
abbrev R29 : List RK := [.one (.flt .f32)]
abbrev X29 : Type := (List Int × Int × Int × Unit) × Unit
abbrev W29 : Type := (Nat × Unit) × ((List Int × Int × Int × Unit) × Unit)
noncomputable def tr29 (p46 : X46 → List Prop) (f46 : X46 → W46) (x : X29) : VT W29 :=
  .pre (p46 ((x.1.1, x.1.2.1, x.1.2.2.1, ()), (33 : Int), ())) (
  let t4 := f46 ((x.1.1, x.1.2.1, x.1.2.2.1, ()), (33 : Int), ())
  let t5 := IntKind.wrap .i64 (t4.1.1 - (16 : Int))
  let t6 := FloatKind.nearest .f32 t5
  let t7 := fop .quo .f32 t6 (1082130432 : Nat)
  .ret ((t7, ()), ((t4.2.1.1, t4.2.1.2.1, t4.2.1.2.2.1, ()), ())))
noncomputable def pp29 (x : X29) : List Prop := [(tr29 pp46 ff46 x).U]
noncomputable def ff29 (x : X29) : W29 := (tr29 pp46 ff46 x).W
noncomputable def s29 : FSpec := ⟨P29, R29, pp29, ff29⟩
def E29 (p46 : X46 → List Prop) (f46 : X46 → W46) : Env := fun f => get1 [(46, ⟨P46, R46, p46, f46⟩)] f
set_option maxRecDepth 100000 in
theorem e29 (p46 : X46 → List Prop) (f46 : X46 → W46) (x : X29) (Q : RsT R29 → OsT P29 → Prop) : evFun TT (E29 p46 f46) Try.f29.ntmps (fun _ => none) (bodyOf Try.f29) Try.f29.results.toList P29 R29 x Q = (tr29 p46 f46 x).V (fun w => Q w.1 w.2) := by kernel_rfl
set_option maxRecDepth 100000 in
theorem ok29 : EnvOK Try.prog (E29 pp46 ff46) := envOK_of (by
  intro p hp
  simp only [List.mem_cons, List.not_mem_nil, or_false] at hp
  rcases hp with rfl
  · exact snd46)
theorem b29 (x : X29) (h : (tr29 pp46 ff46 x).U) : Holds (evFun TT (E29 pp46 ff46) Try.f29.ntmps (fun _ => none) (bodyOf Try.f29) Try.f29.results.toList P29 R29 x (fun r o => (r, o) = (tr29 pp46 ff46 x).W)) := by
  constructor; rw [e29]; exact VT.sound _ h rfl
set_option maxRecDepth 100000 in
theorem snd29 : Sound Try.prog 29 s29 := sound_h (fs := s29) tt_ok mixed ok29 Try.func29 rfl (by kernel_rfl) (ann := fun _ _ => none) fun x h => b29 x (h _ (List.mem_singleton.2 rfl))
end Go.Proofs.Ytmlolnaannoifaa

/- A function of the program as a plain function. Written by wip/gen/gen.py. -/
namespace Go.Proofs.Ytmlolnaannoifaa

/- 119 loop.example/g01193/spec.l02Count -/
abbrev P119 : List PK := [.val (.int .i64)]
abbrev R119 : List RK := [.one (.int .i64)]
abbrev X119 : Type := Int × Unit
abbrev W119 : Type := (Int × Unit) × Unit
noncomputable def tr119 (x : X119) : VT W119 :=
  let t5 := decide (x.1 = (0 : Int))
  .ite t5 (
    .ite t5 (
      .ret (((1 : Int), ()), (()))
    ) (
      let t13 := decide (x.1 = (2 : Int))
      .ite t13 (
        .ite t13 (
          .ret (((2 : Int), ()), (()))
        ) (
          let t16 := decide (x.1 = (1 : Int))
          .ite t16 (
            .ite t16 (
              .ret (((3 : Int), ()), (()))
            ) (
              let t20 := decide (x.1 = (4 : Int))
              .ite t20 (
                .ret (((4 : Int), ()), (()))
              ) (
                .ret (((0 : Int), ()), (()))
              )
            )
          ) (
            let t17 := decide (x.1 = (9 : Int))
            .ite t17 (
              .ite t17 (
                .ret (((3 : Int), ()), (()))
              ) (
                let t20_1 := decide (x.1 = (4 : Int))
                .ite t20_1 (
                  .ret (((4 : Int), ()), (()))
                ) (
                  .ret (((0 : Int), ()), (()))
                )
              )
            ) (
              let t18 := decide (x.1 = (11 : Int))
              .ite t18 (
                .ret (((3 : Int), ()), (()))
              ) (
                let t20_2 := decide (x.1 = (4 : Int))
                .ite t20_2 (
                  .ret (((4 : Int), ()), (()))
                ) (
                  .ret (((0 : Int), ()), (()))
                )
              )
            )
          )
        )
      ) (
        let t14 := decide (x.1 = (3 : Int))
        .ite t14 (
          .ret (((2 : Int), ()), (()))
        ) (
          let t16_1 := decide (x.1 = (1 : Int))
          .ite t16_1 (
            .ite t16_1 (
              .ret (((3 : Int), ()), (()))
            ) (
              let t20_3 := decide (x.1 = (4 : Int))
              .ite t20_3 (
                .ret (((4 : Int), ()), (()))
              ) (
                .ret (((0 : Int), ()), (()))
              )
            )
          ) (
            let t17_1 := decide (x.1 = (9 : Int))
            .ite t17_1 (
              .ite t17_1 (
                .ret (((3 : Int), ()), (()))
              ) (
                let t20_4 := decide (x.1 = (4 : Int))
                .ite t20_4 (
                  .ret (((4 : Int), ()), (()))
                ) (
                  .ret (((0 : Int), ()), (()))
                )
              )
            ) (
              let t18_1 := decide (x.1 = (11 : Int))
              .ite t18_1 (
                .ret (((3 : Int), ()), (()))
              ) (
                let t20_5 := decide (x.1 = (4 : Int))
                .ite t20_5 (
                  .ret (((4 : Int), ()), (()))
                ) (
                  .ret (((0 : Int), ()), (()))
                )
              )
            )
          )
        )
      )
    )
  ) (
    let t6 := decide (x.1 = (8 : Int))
    .ite t6 (
      .ite t6 (
        .ret (((1 : Int), ()), (()))
      ) (
        let t13_1 := decide (x.1 = (2 : Int))
        .ite t13_1 (
          .ite t13_1 (
            .ret (((2 : Int), ()), (()))
          ) (
            let t16_2 := decide (x.1 = (1 : Int))
            .ite t16_2 (
              .ite t16_2 (
                .ret (((3 : Int), ()), (()))
              ) (
                let t20_6 := decide (x.1 = (4 : Int))
                .ite t20_6 (
                  .ret (((4 : Int), ()), (()))
                ) (
                  .ret (((0 : Int), ()), (()))
                )
              )
            ) (
              let t17_2 := decide (x.1 = (9 : Int))
              .ite t17_2 (
                .ite t17_2 (
                  .ret (((3 : Int), ()), (()))
                ) (
                  let t20_7 := decide (x.1 = (4 : Int))
                  .ite t20_7 (
                    .ret (((4 : Int), ()), (()))
                  ) (
                    .ret (((0 : Int), ()), (()))
                  )
                )
              ) (
                let t18_2 := decide (x.1 = (11 : Int))
                .ite t18_2 (
                  .ret (((3 : Int), ()), (()))
                ) (
                  let t20_8 := decide (x.1 = (4 : Int))
                  .ite t20_8 (
                    .ret (((4 : Int), ()), (()))
                  ) (
                    .ret (((0 : Int), ()), (()))
                  )
                )
              )
            )
          )
        ) (
          let t14_1 := decide (x.1 = (3 : Int))
          .ite t14_1 (
            .ret (((2 : Int), ()), (()))
          ) (
            let t16_3 := decide (x.1 = (1 : Int))
            .ite t16_3 (
              .ite t16_3 (
                .ret (((3 : Int), ()), (()))
              ) (
                let t20_9 := decide (x.1 = (4 : Int))
                .ite t20_9 (
                  .ret (((4 : Int), ()), (()))
                ) (
                  .ret (((0 : Int), ()), (()))
                )
              )
            ) (
              let t17_3 := decide (x.1 = (9 : Int))
              .ite t17_3 (
                .ite t17_3 (
                  .ret (((3 : Int), ()), (()))
                ) (
                  let t20_10 := decide (x.1 = (4 : Int))
                  .ite t20_10 (
                    .ret (((4 : Int), ()), (()))
                  ) (
                    .ret (((0 : Int), ()), (()))
                  )
                )
              ) (
                let t18_3 := decide (x.1 = (11 : Int))
                .ite t18_3 (
                  .ret (((3 : Int), ()), (()))
                ) (
                  let t20_11 := decide (x.1 = (4 : Int))
                  .ite t20_11 (
                    .ret (((4 : Int), ()), (()))
                  ) (
                    .ret (((0 : Int), ()), (()))
                  )
                )
              )
            )
          )
        )
      )
    ) (
      let t7 := decide (x.1 = (10 : Int))
      .ite t7 (
        .ite t7 (
          .ret (((1 : Int), ()), (()))
        ) (
          let t13_2 := decide (x.1 = (2 : Int))
          .ite t13_2 (
            .ite t13_2 (
              .ret (((2 : Int), ()), (()))
            ) (
              let t16_4 := decide (x.1 = (1 : Int))
              .ite t16_4 (
                .ite t16_4 (
                  .ret (((3 : Int), ()), (()))
                ) (
                  let t20_12 := decide (x.1 = (4 : Int))
                  .ite t20_12 (
                    .ret (((4 : Int), ()), (()))
                  ) (
                    .ret (((0 : Int), ()), (()))
                  )
                )
              ) (
                let t17_4 := decide (x.1 = (9 : Int))
                .ite t17_4 (
                  .ite t17_4 (
                    .ret (((3 : Int), ()), (()))
                  ) (
                    let t20_13 := decide (x.1 = (4 : Int))
                    .ite t20_13 (
                      .ret (((4 : Int), ()), (()))
                    ) (
                      .ret (((0 : Int), ()), (()))
                    )
                  )
                ) (
                  let t18_4 := decide (x.1 = (11 : Int))
                  .ite t18_4 (
                    .ret (((3 : Int), ()), (()))
                  ) (
                    let t20_14 := decide (x.1 = (4 : Int))
                    .ite t20_14 (
                      .ret (((4 : Int), ()), (()))
                    ) (
                      .ret (((0 : Int), ()), (()))
                    )
                  )
                )
              )
            )
          ) (
            let t14_2 := decide (x.1 = (3 : Int))
            .ite t14_2 (
              .ret (((2 : Int), ()), (()))
            ) (
              let t16_5 := decide (x.1 = (1 : Int))
              .ite t16_5 (
                .ite t16_5 (
                  .ret (((3 : Int), ()), (()))
                ) (
                  let t20_15 := decide (x.1 = (4 : Int))
                  .ite t20_15 (
                    .ret (((4 : Int), ()), (()))
                  ) (
                    .ret (((0 : Int), ()), (()))
                  )
                )
              ) (
                let t17_5 := decide (x.1 = (9 : Int))
                .ite t17_5 (
                  .ite t17_5 (
                    .ret (((3 : Int), ()), (()))
                  ) (
                    let t20_16 := decide (x.1 = (4 : Int))
                    .ite t20_16 (
                      .ret (((4 : Int), ()), (()))
                    ) (
                      .ret (((0 : Int), ()), (()))
                    )
                  )
                ) (
                  let t18_5 := decide (x.1 = (11 : Int))
                  .ite t18_5 (
                    .ret (((3 : Int), ()), (()))
                  ) (
                    let t20_17 := decide (x.1 = (4 : Int))
                    .ite t20_17 (
                      .ret (((4 : Int), ()), (()))
                    ) (
                      .ret (((0 : Int), ()), (()))
                    )
                  )
                )
              )
            )
          )
        )
      ) (
        let t8 := decide (x.1 = (12 : Int))
        .ite t8 (
          .ite t8 (
            .ret (((1 : Int), ()), (()))
          ) (
            let t13_3 := decide (x.1 = (2 : Int))
            .ite t13_3 (
              .ite t13_3 (
                .ret (((2 : Int), ()), (()))
              ) (
                let t16_6 := decide (x.1 = (1 : Int))
                .ite t16_6 (
                  .ite t16_6 (
                    .ret (((3 : Int), ()), (()))
                  ) (
                    let t20_18 := decide (x.1 = (4 : Int))
                    .ite t20_18 (
                      .ret (((4 : Int), ()), (()))
                    ) (
                      .ret (((0 : Int), ()), (()))
                    )
                  )
                ) (
                  let t17_6 := decide (x.1 = (9 : Int))
                  .ite t17_6 (
                    .ite t17_6 (
                      .ret (((3 : Int), ()), (()))
                    ) (
                      let t20_19 := decide (x.1 = (4 : Int))
                      .ite t20_19 (
                        .ret (((4 : Int), ()), (()))
                      ) (
                        .ret (((0 : Int), ()), (()))
                      )
                    )
                  ) (
                    let t18_6 := decide (x.1 = (11 : Int))
                    .ite t18_6 (
                      .ret (((3 : Int), ()), (()))
                    ) (
                      let t20_20 := decide (x.1 = (4 : Int))
                      .ite t20_20 (
                        .ret (((4 : Int), ()), (()))
                      ) (
                        .ret (((0 : Int), ()), (()))
                      )
                    )
                  )
                )
              )
            ) (
              let t14_3 := decide (x.1 = (3 : Int))
              .ite t14_3 (
                .ret (((2 : Int), ()), (()))
              ) (
                let t16_7 := decide (x.1 = (1 : Int))
                .ite t16_7 (
                  .ite t16_7 (
                    .ret (((3 : Int), ()), (()))
                  ) (
                    let t20_21 := decide (x.1 = (4 : Int))
                    .ite t20_21 (
                      .ret (((4 : Int), ()), (()))
                    ) (
                      .ret (((0 : Int), ()), (()))
                    )
                  )
                ) (
                  let t17_7 := decide (x.1 = (9 : Int))
                  .ite t17_7 (
                    .ite t17_7 (
                      .ret (((3 : Int), ()), (()))
                    ) (
                      let t20_22 := decide (x.1 = (4 : Int))
                      .ite t20_22 (
                        .ret (((4 : Int), ()), (()))
                      ) (
                        .ret (((0 : Int), ()), (()))
                      )
                    )
                  ) (
                    let t18_7 := decide (x.1 = (11 : Int))
                    .ite t18_7 (
                      .ret (((3 : Int), ()), (()))
                    ) (
                      let t20_23 := decide (x.1 = (4 : Int))
                      .ite t20_23 (
                        .ret (((4 : Int), ()), (()))
                      ) (
                        .ret (((0 : Int), ()), (()))
                      )
                    )
                  )
                )
              )
            )
          )
        ) (
          let t9 := decide (x.1 = (14 : Int))
          .ite t9 (
            .ite t9 (
              .ret (((1 : Int), ()), (()))
            ) (
              let t13_4 := decide (x.1 = (2 : Int))
              .ite t13_4 (
                .ite t13_4 (
                  .ret (((2 : Int), ()), (()))
                ) (
                  let t16_8 := decide (x.1 = (1 : Int))
                  .ite t16_8 (
                    .ite t16_8 (
                      .ret (((3 : Int), ()), (()))
                    ) (
                      let t20_24 := decide (x.1 = (4 : Int))
                      .ite t20_24 (
                        .ret (((4 : Int), ()), (()))
                      ) (
                        .ret (((0 : Int), ()), (()))
                      )
                    )
                  ) (
                    let t17_8 := decide (x.1 = (9 : Int))
                    .ite t17_8 (
                      .ite t17_8 (
                        .ret (((3 : Int), ()), (()))
                      ) (
                        let t20_25 := decide (x.1 = (4 : Int))
                        .ite t20_25 (
                          .ret (((4 : Int), ()), (()))
                        ) (
                          .ret (((0 : Int), ()), (()))
                        )
                      )
                    ) (
                      let t18_8 := decide (x.1 = (11 : Int))
                      .ite t18_8 (
                        .ret (((3 : Int), ()), (()))
                      ) (
                        let t20_26 := decide (x.1 = (4 : Int))
                        .ite t20_26 (
                          .ret (((4 : Int), ()), (()))
                        ) (
                          .ret (((0 : Int), ()), (()))
                        )
                      )
                    )
                  )
                )
              ) (
                let t14_4 := decide (x.1 = (3 : Int))
                .ite t14_4 (
                  .ret (((2 : Int), ()), (()))
                ) (
                  let t16_9 := decide (x.1 = (1 : Int))
                  .ite t16_9 (
                    .ite t16_9 (
                      .ret (((3 : Int), ()), (()))
                    ) (
                      let t20_27 := decide (x.1 = (4 : Int))
                      .ite t20_27 (
                        .ret (((4 : Int), ()), (()))
                      ) (
                        .ret (((0 : Int), ()), (()))
                      )
                    )
                  ) (
                    let t17_9 := decide (x.1 = (9 : Int))
                    .ite t17_9 (
                      .ite t17_9 (
                        .ret (((3 : Int), ()), (()))
                      ) (
                        let t20_28 := decide (x.1 = (4 : Int))
                        .ite t20_28 (
                          .ret (((4 : Int), ()), (()))
                        ) (
                          .ret (((0 : Int), ()), (()))
                        )
                      )
                    ) (
                      let t18_9 := decide (x.1 = (11 : Int))
                      .ite t18_9 (
                        .ret (((3 : Int), ()), (()))
                      ) (
                        let t20_29 := decide (x.1 = (4 : Int))
                        .ite t20_29 (
                          .ret (((4 : Int), ()), (()))
                        ) (
                          .ret (((0 : Int), ()), (()))
                        )
                      )
                    )
                  )
                )
              )
            )
          ) (
            let t10 := decide (x.1 = (15 : Int))
            .ite t10 (
              .ite t10 (
                .ret (((1 : Int), ()), (()))
              ) (
                let t13_5 := decide (x.1 = (2 : Int))
                .ite t13_5 (
                  .ite t13_5 (
                    .ret (((2 : Int), ()), (()))
                  ) (
                    let t16_10 := decide (x.1 = (1 : Int))
                    .ite t16_10 (
                      .ite t16_10 (
                        .ret (((3 : Int), ()), (()))
                      ) (
                        let t20_30 := decide (x.1 = (4 : Int))
                        .ite t20_30 (
                          .ret (((4 : Int), ()), (()))
                        ) (
                          .ret (((0 : Int), ()), (()))
                        )
                      )
                    ) (
                      let t17_10 := decide (x.1 = (9 : Int))
                      .ite t17_10 (
                        .ite t17_10 (
                          .ret (((3 : Int), ()), (()))
                        ) (
                          let t20_31 := decide (x.1 = (4 : Int))
                          .ite t20_31 (
                            .ret (((4 : Int), ()), (()))
                          ) (
                            .ret (((0 : Int), ()), (()))
                          )
                        )
                      ) (
                        let t18_10 := decide (x.1 = (11 : Int))
                        .ite t18_10 (
                          .ret (((3 : Int), ()), (()))
                        ) (
                          let t20_32 := decide (x.1 = (4 : Int))
                          .ite t20_32 (
                            .ret (((4 : Int), ()), (()))
                          ) (
                            .ret (((0 : Int), ()), (()))
                          )
                        )
                      )
                    )
                  )
                ) (
                  let t14_5 := decide (x.1 = (3 : Int))
                  .ite t14_5 (
                    .ret (((2 : Int), ()), (()))
                  ) (
                    let t16_11 := decide (x.1 = (1 : Int))
                    .ite t16_11 (
                      .ite t16_11 (
                        .ret (((3 : Int), ()), (()))
                      ) (
                        let t20_33 := decide (x.1 = (4 : Int))
                        .ite t20_33 (
                          .ret (((4 : Int), ()), (()))
                        ) (
                          .ret (((0 : Int), ()), (()))
                        )
                      )
                    ) (
                      let t17_11 := decide (x.1 = (9 : Int))
                      .ite t17_11 (
                        .ite t17_11 (
                          .ret (((3 : Int), ()), (()))
                        ) (
                          let t20_34 := decide (x.1 = (4 : Int))
                          .ite t20_34 (
                            .ret (((4 : Int), ()), (()))
                          ) (
                            .ret (((0 : Int), ()), (()))
                          )
                        )
                      ) (
                        let t18_11 := decide (x.1 = (11 : Int))
                        .ite t18_11 (
                          .ret (((3 : Int), ()), (()))
                        ) (
                          let t20_35 := decide (x.1 = (4 : Int))
                          .ite t20_35 (
                            .ret (((4 : Int), ()), (()))
                          ) (
                            .ret (((0 : Int), ()), (()))
                          )
                        )
                      )
                    )
                  )
                )
              )
            ) (
              let t11 := decide (x.1 = (16 : Int))
              .ite t11 (
                .ret (((1 : Int), ()), (()))
              ) (
                let t13_6 := decide (x.1 = (2 : Int))
                .ite t13_6 (
                  .ite t13_6 (
                    .ret (((2 : Int), ()), (()))
                  ) (
                    let t16_12 := decide (x.1 = (1 : Int))
                    .ite t16_12 (
                      .ite t16_12 (
                        .ret (((3 : Int), ()), (()))
                      ) (
                        let t20_36 := decide (x.1 = (4 : Int))
                        .ite t20_36 (
                          .ret (((4 : Int), ()), (()))
                        ) (
                          .ret (((0 : Int), ()), (()))
                        )
                      )
                    ) (
                      let t17_12 := decide (x.1 = (9 : Int))
                      .ite t17_12 (
                        .ite t17_12 (
                          .ret (((3 : Int), ()), (()))
                        ) (
                          let t20_37 := decide (x.1 = (4 : Int))
                          .ite t20_37 (
                            .ret (((4 : Int), ()), (()))
                          ) (
                            .ret (((0 : Int), ()), (()))
                          )
                        )
                      ) (
                        let t18_12 := decide (x.1 = (11 : Int))
                        .ite t18_12 (
                          .ret (((3 : Int), ()), (()))
                        ) (
                          let t20_38 := decide (x.1 = (4 : Int))
                          .ite t20_38 (
                            .ret (((4 : Int), ()), (()))
                          ) (
                            .ret (((0 : Int), ()), (()))
                          )
                        )
                      )
                    )
                  )
                ) (
                  let t14_6 := decide (x.1 = (3 : Int))
                  .ite t14_6 (
                    .ret (((2 : Int), ()), (()))
                  ) (
                    let t16_13 := decide (x.1 = (1 : Int))
                    .ite t16_13 (
                      .ite t16_13 (
                        .ret (((3 : Int), ()), (()))
                      ) (
                        let t20_39 := decide (x.1 = (4 : Int))
                        .ite t20_39 (
                          .ret (((4 : Int), ()), (()))
                        ) (
                          .ret (((0 : Int), ()), (()))
                        )
                      )
                    ) (
                      let t17_13 := decide (x.1 = (9 : Int))
                      .ite t17_13 (
                        .ite t17_13 (
                          .ret (((3 : Int), ()), (()))
                        ) (
                          let t20_40 := decide (x.1 = (4 : Int))
                          .ite t20_40 (
                            .ret (((4 : Int), ()), (()))
                          ) (
                            .ret (((0 : Int), ()), (()))
                          )
                        )
                      ) (
                        let t18_13 := decide (x.1 = (11 : Int))
                        .ite t18_13 (
                          .ret (((3 : Int), ()), (()))
                        ) (
                          let t20_41 := decide (x.1 = (4 : Int))
                          .ite t20_41 (
                            .ret (((4 : Int), ()), (()))
                          ) (
                            .ret (((0 : Int), ()), (()))
                          )
                        )
                      )
                    )
                  )
                )
              )
            )
          )
        )
      )
    )
  )
noncomputable def pp119 (x : X119) : List Prop := [(tr119 x).U]
noncomputable def ff119 (x : X119) : W119 := (tr119 x).W
noncomputable def s119 : FSpec := ⟨P119, R119, pp119, ff119⟩
def E119 : Env := fun f => get1 [] f
set_option maxRecDepth 100000 in
theorem e119 (x : X119) (Q : RsT R119 → OsT P119 → Prop) : evFun TT (E119) Try.f119.ntmps (fun _ => none) (bodyOf Try.f119) Try.f119.results.toList P119 R119 x Q = (tr119 x).V (fun w => Q w.1 w.2) := by kernel_rfl
set_option maxRecDepth 100000 in
theorem ok119 : EnvOK Try.prog E119 := envOK_of (by intro p hp; simp at hp)
theorem b119 (x : X119) (h : (tr119 x).U) : Holds (evFun TT (E119) Try.f119.ntmps (fun _ => none) (bodyOf Try.f119) Try.f119.results.toList P119 R119 x (fun r o => (r, o) = (tr119 x).W)) := by
  constructor; rw [e119]; exact VT.sound _ h rfl
set_option maxRecDepth 100000 in
theorem snd119 : Sound Try.prog 119 s119 := sound_h (fs := s119) tt_ok mixed ok119 Try.func119 rfl (by kernel_rfl) (ann := fun _ _ => none) fun x h => b119 x (h _ (List.mem_singleton.2 rfl))
end Go.Proofs.Ytmlolnaannoifaa

/- A function of the program as a plain function. Written by wip/gen/gen.py. -/
namespace Go.Proofs.Ytmlolnaannoifaa

/- 150 loop.example/g01193/spec.l02Size -/
abbrev P150 : List PK := [.val (.flt .f32)]
abbrev R150 : List RK := [.one (.flt .f32)]
abbrev X150 : Type := Nat × Unit
abbrev W150 : Type := (Nat × Unit) × Unit
noncomputable def tr150 (x : X150) : VT W150 :=
  let t4 := fleq .f32 x.1 (0 : Nat)
  .ite t4 (
    let t6 := fop .sub .f32 (0 : Nat) x.1
    .ret ((t6, ()), (()))
  ) (
    .ret ((x.1, ()), (()))
  )
noncomputable def pp150 (x : X150) : List Prop := [(tr150 x).U]
noncomputable def ff150 (x : X150) : W150 := (tr150 x).W
noncomputable def s150 : FSpec := ⟨P150, R150, pp150, ff150⟩
def E150 : Env := fun f => get1 [] f
set_option maxRecDepth 100000 in
theorem e150 (x : X150) (Q : RsT R150 → OsT P150 → Prop) : evFun TT (E150) Try.f150.ntmps (fun _ => none) (bodyOf Try.f150) Try.f150.results.toList P150 R150 x Q = (tr150 x).V (fun w => Q w.1 w.2) := by kernel_rfl
set_option maxRecDepth 100000 in
theorem ok150 : EnvOK Try.prog E150 := envOK_of (by intro p hp; simp at hp)
theorem b150 (x : X150) (h : (tr150 x).U) : Holds (evFun TT (E150) Try.f150.ntmps (fun _ => none) (bodyOf Try.f150) Try.f150.results.toList P150 R150 x (fun r o => (r, o) = (tr150 x).W)) := by
  constructor; rw [e150]; exact VT.sound _ h rfl
set_option maxRecDepth 100000 in
theorem snd150 : Sound Try.prog 150 s150 := sound_h (fs := s150) tt_ok mixed ok150 Try.func150 rfl (by kernel_rfl) (ann := fun _ _ => none) fun x h => b150 x (h _ (List.mem_singleton.2 rfl))
end Go.Proofs.Ytmlolnaannoifaa

/- A function of the program as a plain function. Written by wip/gen/gen.py. -/
namespace Go.Proofs.Ytmlolnaannoifaa

/- 113 loop.example/g01193/spec.l02DrawNumbers -/
abbrev P113 : List PK := [.box (.pair (.sl (.int .u8)) (.pair (.int .i64) (.pair (.int .u64) .unit))), .val (.int .i64)]
abbrev R113 : List RK := [.one (.sl (.flt .f32))]
abbrev X113 : Type := (List Int × Int × Int × Unit) × Int × Unit
abbrev W113 : Type := (List Nat × Unit) × ((List Int × Int × Int × Unit) × Unit)
abbrev K113_r3 : Type := Int × List Int × Int × Int × List Nat × Unit
noncomputable def lp113_1 (p29 : X29 → List Prop) (f29 : X29 → W29) (p46 : X46 → List Prop) (f46 : X46 → W46) (p119 : X119 → List Prop) (f119 : X119 → W119) (p150 : X150 → List Prop) (f150 : X150 → W150) (x : X113) (k : K113_r3) : VT (K113_r3 ⊕ W113) :=
  let t12 := decide ((0 : Int) < k.1)
  .ite t12 (
    .pre (p29 ((k.2.1, k.2.2.1, k.2.2.2.1, ()), ())) (
    let t16 := f29 ((k.2.1, k.2.2.1, k.2.2.2.1, ()), ())
    let t19 := decide (x.2.1 = (0 : Int))
    .ite t19 (
      .ite t19 (
        .pre (p150 (t16.1.1, ())) (
        let t25 := f150 (t16.1.1, ())
        let t45 := [t25.1.1]
        .step (k.2.2.2.2.1.length = k.2.2.2.2.1.length) (
        .step (k.2.2.2.2.1.length + t45.length ≤ 1099511627776) (
        let t46 := k.2.2.2.2.1 ++ t45
        let t14 := IntKind.wrap .i64 (k.1 - (1 : Int))
        .next (t14, t16.2.1.1, t16.2.1.2.1, t16.2.1.2.2.1, t46, ()) (fun y q => True ∧ (x.2.1 = x.2.1) ∧ (t46.length = y.2.2.2.2.1.length) ∧ (t14 = y.1) ∧ ((t16.2.1.1 = y.2.1) ∧ (t16.2.1.2.1 = y.2.2.1) ∧ (t16.2.1.2.2.1 = y.2.2.2.1) ∧ True) ∧ (t46 = y.2.2.2.2.1) ∧ q) (fun _ h => ⟨trivial, rfl, rfl, rfl, ⟨rfl, rfl, rfl, trivial⟩, rfl, h⟩))))
      ) (
        let t27 := decide (x.2.1 = (8 : Int))
        .ite t27 (
          .ite t27 (
            .pre (p46 ((t16.2.1.1, t16.2.1.2.1, t16.2.1.2.2.1, ()), (8 : Int), ())) (
            let t32 := f46 ((t16.2.1.1, t16.2.1.2.1, t16.2.1.2.2.1, ()), (8 : Int), ())
            let t33 := IntKind.wrap .i64 ((1 : Int) + t32.1.1)
            let t34 := FloatKind.nearest .f32 t33
            let t35 := fop .quo .f32 t34 (1082130432 : Nat)
            let t45_1 := [t35]
            .step (k.2.2.2.2.1.length = k.2.2.2.2.1.length) (
            .step (k.2.2.2.2.1.length + t45_1.length ≤ 1099511627776) (
            let t46_1 := k.2.2.2.2.1 ++ t45_1
            let t14_1 := IntKind.wrap .i64 (k.1 - (1 : Int))
            .next (t14_1, t32.2.1.1, t32.2.1.2.1, t32.2.1.2.2.1, t46_1, ()) (fun y q => True ∧ (x.2.1 = x.2.1) ∧ (t46_1.length = y.2.2.2.2.1.length) ∧ (t14_1 = y.1) ∧ ((t32.2.1.1 = y.2.1) ∧ (t32.2.1.2.1 = y.2.2.1) ∧ (t32.2.1.2.2.1 = y.2.2.2.1) ∧ True) ∧ (t46_1 = y.2.2.2.2.1) ∧ q) (fun _ h => ⟨trivial, rfl, rfl, rfl, ⟨rfl, rfl, rfl, trivial⟩, rfl, h⟩))))
          ) (
            let t37 := decide (x.2.1 = (12 : Int))
            .ite t37 (
              .pre (p46 ((t16.2.1.1, t16.2.1.2.1, t16.2.1.2.2.1, ()), (17 : Int), ())) (
              let t39 := f46 ((t16.2.1.1, t16.2.1.2.1, t16.2.1.2.2.1, ()), (17 : Int), ())
              let t40 := IntKind.wrap .i64 (t39.1.1 - (8 : Int))
              let t41 := FloatKind.nearest .f32 t40
              let t42 := fop .quo .f32 t41 (1098907648 : Nat)
              let t45_2 := [t42]
              .step (k.2.2.2.2.1.length = k.2.2.2.2.1.length) (
              .step (k.2.2.2.2.1.length + t45_2.length ≤ 1099511627776) (
              let t46_2 := k.2.2.2.2.1 ++ t45_2
              let t14_2 := IntKind.wrap .i64 (k.1 - (1 : Int))
              .next (t14_2, t39.2.1.1, t39.2.1.2.1, t39.2.1.2.2.1, t46_2, ()) (fun y q => True ∧ (x.2.1 = x.2.1) ∧ (t46_2.length = y.2.2.2.2.1.length) ∧ (t14_2 = y.1) ∧ ((t39.2.1.1 = y.2.1) ∧ (t39.2.1.2.1 = y.2.2.1) ∧ (t39.2.1.2.2.1 = y.2.2.2.1) ∧ True) ∧ (t46_2 = y.2.2.2.2.1) ∧ q) (fun _ h => ⟨trivial, rfl, rfl, rfl, ⟨rfl, rfl, rfl, trivial⟩, rfl, h⟩))))
            ) (
              let t45_3 := [t16.1.1]
              .step (k.2.2.2.2.1.length = k.2.2.2.2.1.length) (
              .step (k.2.2.2.2.1.length + t45_3.length ≤ 1099511627776) (
              let t46_3 := k.2.2.2.2.1 ++ t45_3
              let t14_3 := IntKind.wrap .i64 (k.1 - (1 : Int))
              .next (t14_3, t16.2.1.1, t16.2.1.2.1, t16.2.1.2.2.1, t46_3, ()) (fun y q => True ∧ (x.2.1 = x.2.1) ∧ (t46_3.length = y.2.2.2.2.1.length) ∧ (t14_3 = y.1) ∧ ((t16.2.1.1 = y.2.1) ∧ (t16.2.1.2.1 = y.2.2.1) ∧ (t16.2.1.2.2.1 = y.2.2.2.1) ∧ True) ∧ (t46_3 = y.2.2.2.2.1) ∧ q) (fun _ h => ⟨trivial, rfl, rfl, rfl, ⟨rfl, rfl, rfl, trivial⟩, rfl, h⟩)))
            )
          )
        ) (
          let t28 := decide (x.2.1 = (10 : Int))
          .ite t28 (
            .ite t28 (
              .pre (p46 ((t16.2.1.1, t16.2.1.2.1, t16.2.1.2.2.1, ()), (8 : Int), ())) (
              let t32_1 := f46 ((t16.2.1.1, t16.2.1.2.1, t16.2.1.2.2.1, ()), (8 : Int), ())
              let t33_1 := IntKind.wrap .i64 ((1 : Int) + t32_1.1.1)
              let t34_1 := FloatKind.nearest .f32 t33_1
              let t35_1 := fop .quo .f32 t34_1 (1082130432 : Nat)
              let t45_4 := [t35_1]
              .step (k.2.2.2.2.1.length = k.2.2.2.2.1.length) (
              .step (k.2.2.2.2.1.length + t45_4.length ≤ 1099511627776) (
              let t46_4 := k.2.2.2.2.1 ++ t45_4
              let t14_4 := IntKind.wrap .i64 (k.1 - (1 : Int))
              .next (t14_4, t32_1.2.1.1, t32_1.2.1.2.1, t32_1.2.1.2.2.1, t46_4, ()) (fun y q => True ∧ (x.2.1 = x.2.1) ∧ (t46_4.length = y.2.2.2.2.1.length) ∧ (t14_4 = y.1) ∧ ((t32_1.2.1.1 = y.2.1) ∧ (t32_1.2.1.2.1 = y.2.2.1) ∧ (t32_1.2.1.2.2.1 = y.2.2.2.1) ∧ True) ∧ (t46_4 = y.2.2.2.2.1) ∧ q) (fun _ h => ⟨trivial, rfl, rfl, rfl, ⟨rfl, rfl, rfl, trivial⟩, rfl, h⟩))))
            ) (
              let t37_1 := decide (x.2.1 = (12 : Int))
              .ite t37_1 (
                .pre (p46 ((t16.2.1.1, t16.2.1.2.1, t16.2.1.2.2.1, ()), (17 : Int), ())) (
                let t39_1 := f46 ((t16.2.1.1, t16.2.1.2.1, t16.2.1.2.2.1, ()), (17 : Int), ())
                let t40_1 := IntKind.wrap .i64 (t39_1.1.1 - (8 : Int))
                let t41_1 := FloatKind.nearest .f32 t40_1
                let t42_1 := fop .quo .f32 t41_1 (1098907648 : Nat)
                let t45_5 := [t42_1]
                .step (k.2.2.2.2.1.length = k.2.2.2.2.1.length) (
                .step (k.2.2.2.2.1.length + t45_5.length ≤ 1099511627776) (
                let t46_5 := k.2.2.2.2.1 ++ t45_5
                let t14_5 := IntKind.wrap .i64 (k.1 - (1 : Int))
                .next (t14_5, t39_1.2.1.1, t39_1.2.1.2.1, t39_1.2.1.2.2.1, t46_5, ()) (fun y q => True ∧ (x.2.1 = x.2.1) ∧ (t46_5.length = y.2.2.2.2.1.length) ∧ (t14_5 = y.1) ∧ ((t39_1.2.1.1 = y.2.1) ∧ (t39_1.2.1.2.1 = y.2.2.1) ∧ (t39_1.2.1.2.2.1 = y.2.2.2.1) ∧ True) ∧ (t46_5 = y.2.2.2.2.1) ∧ q) (fun _ h => ⟨trivial, rfl, rfl, rfl, ⟨rfl, rfl, rfl, trivial⟩, rfl, h⟩))))
              ) (
                let t45_6 := [t16.1.1]
                .step (k.2.2.2.2.1.length = k.2.2.2.2.1.length) (
                .step (k.2.2.2.2.1.length + t45_6.length ≤ 1099511627776) (
                let t46_6 := k.2.2.2.2.1 ++ t45_6
                let t14_6 := IntKind.wrap .i64 (k.1 - (1 : Int))
                .next (t14_6, t16.2.1.1, t16.2.1.2.1, t16.2.1.2.2.1, t46_6, ()) (fun y q => True ∧ (x.2.1 = x.2.1) ∧ (t46_6.length = y.2.2.2.2.1.length) ∧ (t14_6 = y.1) ∧ ((t16.2.1.1 = y.2.1) ∧ (t16.2.1.2.1 = y.2.2.1) ∧ (t16.2.1.2.2.1 = y.2.2.2.1) ∧ True) ∧ (t46_6 = y.2.2.2.2.1) ∧ q) (fun _ h => ⟨trivial, rfl, rfl, rfl, ⟨rfl, rfl, rfl, trivial⟩, rfl, h⟩)))
              )
            )
          ) (
            let t29 := decide (x.2.1 = (11 : Int))
            .ite t29 (
              .ite t29 (
                .pre (p46 ((t16.2.1.1, t16.2.1.2.1, t16.2.1.2.2.1, ()), (8 : Int), ())) (
                let t32_2 := f46 ((t16.2.1.1, t16.2.1.2.1, t16.2.1.2.2.1, ()), (8 : Int), ())
                let t33_2 := IntKind.wrap .i64 ((1 : Int) + t32_2.1.1)
                let t34_2 := FloatKind.nearest .f32 t33_2
                let t35_2 := fop .quo .f32 t34_2 (1082130432 : Nat)
                let t45_7 := [t35_2]
                .step (k.2.2.2.2.1.length = k.2.2.2.2.1.length) (
                .step (k.2.2.2.2.1.length + t45_7.length ≤ 1099511627776) (
                let t46_7 := k.2.2.2.2.1 ++ t45_7
                let t14_7 := IntKind.wrap .i64 (k.1 - (1 : Int))
                .next (t14_7, t32_2.2.1.1, t32_2.2.1.2.1, t32_2.2.1.2.2.1, t46_7, ()) (fun y q => True ∧ (x.2.1 = x.2.1) ∧ (t46_7.length = y.2.2.2.2.1.length) ∧ (t14_7 = y.1) ∧ ((t32_2.2.1.1 = y.2.1) ∧ (t32_2.2.1.2.1 = y.2.2.1) ∧ (t32_2.2.1.2.2.1 = y.2.2.2.1) ∧ True) ∧ (t46_7 = y.2.2.2.2.1) ∧ q) (fun _ h => ⟨trivial, rfl, rfl, rfl, ⟨rfl, rfl, rfl, trivial⟩, rfl, h⟩))))
              ) (
                let t37_2 := decide (x.2.1 = (12 : Int))
                .ite t37_2 (
                  .pre (p46 ((t16.2.1.1, t16.2.1.2.1, t16.2.1.2.2.1, ()), (17 : Int), ())) (
                  let t39_2 := f46 ((t16.2.1.1, t16.2.1.2.1, t16.2.1.2.2.1, ()), (17 : Int), ())
                  let t40_2 := IntKind.wrap .i64 (t39_2.1.1 - (8 : Int))
                  let t41_2 := FloatKind.nearest .f32 t40_2
                  let t42_2 := fop .quo .f32 t41_2 (1098907648 : Nat)
                  let t45_8 := [t42_2]
                  .step (k.2.2.2.2.1.length = k.2.2.2.2.1.length) (
                  .step (k.2.2.2.2.1.length + t45_8.length ≤ 1099511627776) (
                  let t46_8 := k.2.2.2.2.1 ++ t45_8
                  let t14_8 := IntKind.wrap .i64 (k.1 - (1 : Int))
                  .next (t14_8, t39_2.2.1.1, t39_2.2.1.2.1, t39_2.2.1.2.2.1, t46_8, ()) (fun y q => True ∧ (x.2.1 = x.2.1) ∧ (t46_8.length = y.2.2.2.2.1.length) ∧ (t14_8 = y.1) ∧ ((t39_2.2.1.1 = y.2.1) ∧ (t39_2.2.1.2.1 = y.2.2.1) ∧ (t39_2.2.1.2.2.1 = y.2.2.2.1) ∧ True) ∧ (t46_8 = y.2.2.2.2.1) ∧ q) (fun _ h => ⟨trivial, rfl, rfl, rfl, ⟨rfl, rfl, rfl, trivial⟩, rfl, h⟩))))
                ) (
                  let t45_9 := [t16.1.1]
                  .step (k.2.2.2.2.1.length = k.2.2.2.2.1.length) (
                  .step (k.2.2.2.2.1.length + t45_9.length ≤ 1099511627776) (
                  let t46_9 := k.2.2.2.2.1 ++ t45_9
                  let t14_9 := IntKind.wrap .i64 (k.1 - (1 : Int))
                  .next (t14_9, t16.2.1.1, t16.2.1.2.1, t16.2.1.2.2.1, t46_9, ()) (fun y q => True ∧ (x.2.1 = x.2.1) ∧ (t46_9.length = y.2.2.2.2.1.length) ∧ (t14_9 = y.1) ∧ ((t16.2.1.1 = y.2.1) ∧ (t16.2.1.2.1 = y.2.2.1) ∧ (t16.2.1.2.2.1 = y.2.2.2.1) ∧ True) ∧ (t46_9 = y.2.2.2.2.1) ∧ q) (fun _ h => ⟨trivial, rfl, rfl, rfl, ⟨rfl, rfl, rfl, trivial⟩, rfl, h⟩)))
                )
              )
            ) (
              let t30 := decide (x.2.1 = (14 : Int))
              .ite t30 (
                .pre (p46 ((t16.2.1.1, t16.2.1.2.1, t16.2.1.2.2.1, ()), (8 : Int), ())) (
                let t32_3 := f46 ((t16.2.1.1, t16.2.1.2.1, t16.2.1.2.2.1, ()), (8 : Int), ())
                let t33_3 := IntKind.wrap .i64 ((1 : Int) + t32_3.1.1)
                let t34_3 := FloatKind.nearest .f32 t33_3
                let t35_3 := fop .quo .f32 t34_3 (1082130432 : Nat)
                let t45_10 := [t35_3]
                .step (k.2.2.2.2.1.length = k.2.2.2.2.1.length) (
                .step (k.2.2.2.2.1.length + t45_10.length ≤ 1099511627776) (
                let t46_10 := k.2.2.2.2.1 ++ t45_10
                let t14_10 := IntKind.wrap .i64 (k.1 - (1 : Int))
                .next (t14_10, t32_3.2.1.1, t32_3.2.1.2.1, t32_3.2.1.2.2.1, t46_10, ()) (fun y q => True ∧ (x.2.1 = x.2.1) ∧ (t46_10.length = y.2.2.2.2.1.length) ∧ (t14_10 = y.1) ∧ ((t32_3.2.1.1 = y.2.1) ∧ (t32_3.2.1.2.1 = y.2.2.1) ∧ (t32_3.2.1.2.2.1 = y.2.2.2.1) ∧ True) ∧ (t46_10 = y.2.2.2.2.1) ∧ q) (fun _ h => ⟨trivial, rfl, rfl, rfl, ⟨rfl, rfl, rfl, trivial⟩, rfl, h⟩))))
              ) (
                let t37_3 := decide (x.2.1 = (12 : Int))
                .ite t37_3 (
                  .pre (p46 ((t16.2.1.1, t16.2.1.2.1, t16.2.1.2.2.1, ()), (17 : Int), ())) (
                  let t39_3 := f46 ((t16.2.1.1, t16.2.1.2.1, t16.2.1.2.2.1, ()), (17 : Int), ())
                  let t40_3 := IntKind.wrap .i64 (t39_3.1.1 - (8 : Int))
                  let t41_3 := FloatKind.nearest .f32 t40_3
                  let t42_3 := fop .quo .f32 t41_3 (1098907648 : Nat)
                  let t45_11 := [t42_3]
                  .step (k.2.2.2.2.1.length = k.2.2.2.2.1.length) (
                  .step (k.2.2.2.2.1.length + t45_11.length ≤ 1099511627776) (
                  let t46_11 := k.2.2.2.2.1 ++ t45_11
                  let t14_11 := IntKind.wrap .i64 (k.1 - (1 : Int))
                  .next (t14_11, t39_3.2.1.1, t39_3.2.1.2.1, t39_3.2.1.2.2.1, t46_11, ()) (fun y q => True ∧ (x.2.1 = x.2.1) ∧ (t46_11.length = y.2.2.2.2.1.length) ∧ (t14_11 = y.1) ∧ ((t39_3.2.1.1 = y.2.1) ∧ (t39_3.2.1.2.1 = y.2.2.1) ∧ (t39_3.2.1.2.2.1 = y.2.2.2.1) ∧ True) ∧ (t46_11 = y.2.2.2.2.1) ∧ q) (fun _ h => ⟨trivial, rfl, rfl, rfl, ⟨rfl, rfl, rfl, trivial⟩, rfl, h⟩))))
                ) (
                  let t45_12 := [t16.1.1]
                  .step (k.2.2.2.2.1.length = k.2.2.2.2.1.length) (
                  .step (k.2.2.2.2.1.length + t45_12.length ≤ 1099511627776) (
                  let t46_12 := k.2.2.2.2.1 ++ t45_12
                  let t14_12 := IntKind.wrap .i64 (k.1 - (1 : Int))
                  .next (t14_12, t16.2.1.1, t16.2.1.2.1, t16.2.1.2.2.1, t46_12, ()) (fun y q => True ∧ (x.2.1 = x.2.1) ∧ (t46_12.length = y.2.2.2.2.1.length) ∧ (t14_12 = y.1) ∧ ((t16.2.1.1 = y.2.1) ∧ (t16.2.1.2.1 = y.2.2.1) ∧ (t16.2.1.2.2.1 = y.2.2.2.1) ∧ True) ∧ (t46_12 = y.2.2.2.2.1) ∧ q) (fun _ h => ⟨trivial, rfl, rfl, rfl, ⟨rfl, rfl, rfl, trivial⟩, rfl, h⟩)))
                )
              )
            )
          )
        )
      )
    ) (
      let t20 := decide (x.2.1 = (1 : Int))
      .ite t20 (
        .ite t20 (
          .pre (p150 (t16.1.1, ())) (
          let t25_1 := f150 (t16.1.1, ())
          let t45_13 := [t25_1.1.1]
          .step (k.2.2.2.2.1.length = k.2.2.2.2.1.length) (
          .step (k.2.2.2.2.1.length + t45_13.length ≤ 1099511627776) (
          let t46_13 := k.2.2.2.2.1 ++ t45_13
          let t14_13 := IntKind.wrap .i64 (k.1 - (1 : Int))
          .next (t14_13, t16.2.1.1, t16.2.1.2.1, t16.2.1.2.2.1, t46_13, ()) (fun y q => True ∧ (x.2.1 = x.2.1) ∧ (t46_13.length = y.2.2.2.2.1.length) ∧ (t14_13 = y.1) ∧ ((t16.2.1.1 = y.2.1) ∧ (t16.2.1.2.1 = y.2.2.1) ∧ (t16.2.1.2.2.1 = y.2.2.2.1) ∧ True) ∧ (t46_13 = y.2.2.2.2.1) ∧ q) (fun _ h => ⟨trivial, rfl, rfl, rfl, ⟨rfl, rfl, rfl, trivial⟩, rfl, h⟩))))
        ) (
          let t27_1 := decide (x.2.1 = (8 : Int))
          .ite t27_1 (
            .ite t27_1 (
              .pre (p46 ((t16.2.1.1, t16.2.1.2.1, t16.2.1.2.2.1, ()), (8 : Int), ())) (
              let t32_4 := f46 ((t16.2.1.1, t16.2.1.2.1, t16.2.1.2.2.1, ()), (8 : Int), ())
              let t33_4 := IntKind.wrap .i64 ((1 : Int) + t32_4.1.1)
              let t34_4 := FloatKind.nearest .f32 t33_4
              let t35_4 := fop .quo .f32 t34_4 (1082130432 : Nat)
              let t45_14 := [t35_4]
              .step (k.2.2.2.2.1.length = k.2.2.2.2.1.length) (
              .step (k.2.2.2.2.1.length + t45_14.length ≤ 1099511627776) (
              let t46_14 := k.2.2.2.2.1 ++ t45_14
              let t14_14 := IntKind.wrap .i64 (k.1 - (1 : Int))
              .next (t14_14, t32_4.2.1.1, t32_4.2.1.2.1, t32_4.2.1.2.2.1, t46_14, ()) (fun y q => True ∧ (x.2.1 = x.2.1) ∧ (t46_14.length = y.2.2.2.2.1.length) ∧ (t14_14 = y.1) ∧ ((t32_4.2.1.1 = y.2.1) ∧ (t32_4.2.1.2.1 = y.2.2.1) ∧ (t32_4.2.1.2.2.1 = y.2.2.2.1) ∧ True) ∧ (t46_14 = y.2.2.2.2.1) ∧ q) (fun _ h => ⟨trivial, rfl, rfl, rfl, ⟨rfl, rfl, rfl, trivial⟩, rfl, h⟩))))
            ) (
              let t37_4 := decide (x.2.1 = (12 : Int))
              .ite t37_4 (
                .pre (p46 ((t16.2.1.1, t16.2.1.2.1, t16.2.1.2.2.1, ()), (17 : Int), ())) (
                let t39_4 := f46 ((t16.2.1.1, t16.2.1.2.1, t16.2.1.2.2.1, ()), (17 : Int), ())
                let t40_4 := IntKind.wrap .i64 (t39_4.1.1 - (8 : Int))
                let t41_4 := FloatKind.nearest .f32 t40_4
                let t42_4 := fop .quo .f32 t41_4 (1098907648 : Nat)
                let t45_15 := [t42_4]
                .step (k.2.2.2.2.1.length = k.2.2.2.2.1.length) (
                .step (k.2.2.2.2.1.length + t45_15.length ≤ 1099511627776) (
                let t46_15 := k.2.2.2.2.1 ++ t45_15
                let t14_15 := IntKind.wrap .i64 (k.1 - (1 : Int))
                .next (t14_15, t39_4.2.1.1, t39_4.2.1.2.1, t39_4.2.1.2.2.1, t46_15, ()) (fun y q => True ∧ (x.2.1 = x.2.1) ∧ (t46_15.length = y.2.2.2.2.1.length) ∧ (t14_15 = y.1) ∧ ((t39_4.2.1.1 = y.2.1) ∧ (t39_4.2.1.2.1 = y.2.2.1) ∧ (t39_4.2.1.2.2.1 = y.2.2.2.1) ∧ True) ∧ (t46_15 = y.2.2.2.2.1) ∧ q) (fun _ h => ⟨trivial, rfl, rfl, rfl, ⟨rfl, rfl, rfl, trivial⟩, rfl, h⟩))))
              ) (
                let t45_16 := [t16.1.1]
                .step (k.2.2.2.2.1.length = k.2.2.2.2.1.length) (
                .step (k.2.2.2.2.1.length + t45_16.length ≤ 1099511627776) (
                let t46_16 := k.2.2.2.2.1 ++ t45_16
                let t14_16 := IntKind.wrap .i64 (k.1 - (1 : Int))
                .next (t14_16, t16.2.1.1, t16.2.1.2.1, t16.2.1.2.2.1, t46_16, ()) (fun y q => True ∧ (x.2.1 = x.2.1) ∧ (t46_16.length = y.2.2.2.2.1.length) ∧ (t14_16 = y.1) ∧ ((t16.2.1.1 = y.2.1) ∧ (t16.2.1.2.1 = y.2.2.1) ∧ (t16.2.1.2.2.1 = y.2.2.2.1) ∧ True) ∧ (t46_16 = y.2.2.2.2.1) ∧ q) (fun _ h => ⟨trivial, rfl, rfl, rfl, ⟨rfl, rfl, rfl, trivial⟩, rfl, h⟩)))
              )
            )
          ) (
            let t28_1 := decide (x.2.1 = (10 : Int))
            .ite t28_1 (
              .ite t28_1 (
                .pre (p46 ((t16.2.1.1, t16.2.1.2.1, t16.2.1.2.2.1, ()), (8 : Int), ())) (
                let t32_5 := f46 ((t16.2.1.1, t16.2.1.2.1, t16.2.1.2.2.1, ()), (8 : Int), ())
                let t33_5 := IntKind.wrap .i64 ((1 : Int) + t32_5.1.1)
                let t34_5 := FloatKind.nearest .f32 t33_5
                let t35_5 := fop .quo .f32 t34_5 (1082130432 : Nat)
                let t45_17 := [t35_5]
                .step (k.2.2.2.2.1.length = k.2.2.2.2.1.length) (
                .step (k.2.2.2.2.1.length + t45_17.length ≤ 1099511627776) (
                let t46_17 := k.2.2.2.2.1 ++ t45_17
                let t14_17 := IntKind.wrap .i64 (k.1 - (1 : Int))
                .next (t14_17, t32_5.2.1.1, t32_5.2.1.2.1, t32_5.2.1.2.2.1, t46_17, ()) (fun y q => True ∧ (x.2.1 = x.2.1) ∧ (t46_17.length = y.2.2.2.2.1.length) ∧ (t14_17 = y.1) ∧ ((t32_5.2.1.1 = y.2.1) ∧ (t32_5.2.1.2.1 = y.2.2.1) ∧ (t32_5.2.1.2.2.1 = y.2.2.2.1) ∧ True) ∧ (t46_17 = y.2.2.2.2.1) ∧ q) (fun _ h => ⟨trivial, rfl, rfl, rfl, ⟨rfl, rfl, rfl, trivial⟩, rfl, h⟩))))
              ) (
                let t37_5 := decide (x.2.1 = (12 : Int))
                .ite t37_5 (
                  .pre (p46 ((t16.2.1.1, t16.2.1.2.1, t16.2.1.2.2.1, ()), (17 : Int), ())) (
                  let t39_5 := f46 ((t16.2.1.1, t16.2.1.2.1, t16.2.1.2.2.1, ()), (17 : Int), ())
                  let t40_5 := IntKind.wrap .i64 (t39_5.1.1 - (8 : Int))
                  let t41_5 := FloatKind.nearest .f32 t40_5
                  let t42_5 := fop .quo .f32 t41_5 (1098907648 : Nat)
                  let t45_18 := [t42_5]
                  .step (k.2.2.2.2.1.length = k.2.2.2.2.1.length) (
                  .step (k.2.2.2.2.1.length + t45_18.length ≤ 1099511627776) (
                  let t46_18 := k.2.2.2.2.1 ++ t45_18
                  let t14_18 := IntKind.wrap .i64 (k.1 - (1 : Int))
                  .next (t14_18, t39_5.2.1.1, t39_5.2.1.2.1, t39_5.2.1.2.2.1, t46_18, ()) (fun y q => True ∧ (x.2.1 = x.2.1) ∧ (t46_18.length = y.2.2.2.2.1.length) ∧ (t14_18 = y.1) ∧ ((t39_5.2.1.1 = y.2.1) ∧ (t39_5.2.1.2.1 = y.2.2.1) ∧ (t39_5.2.1.2.2.1 = y.2.2.2.1) ∧ True) ∧ (t46_18 = y.2.2.2.2.1) ∧ q) (fun _ h => ⟨trivial, rfl, rfl, rfl, ⟨rfl, rfl, rfl, trivial⟩, rfl, h⟩))))
                ) (
                  let t45_19 := [t16.1.1]
                  .step (k.2.2.2.2.1.length = k.2.2.2.2.1.length) (
                  .step (k.2.2.2.2.1.length + t45_19.length ≤ 1099511627776) (
                  let t46_19 := k.2.2.2.2.1 ++ t45_19
                  let t14_19 := IntKind.wrap .i64 (k.1 - (1 : Int))
                  .next (t14_19, t16.2.1.1, t16.2.1.2.1, t16.2.1.2.2.1, t46_19, ()) (fun y q => True ∧ (x.2.1 = x.2.1) ∧ (t46_19.length = y.2.2.2.2.1.length) ∧ (t14_19 = y.1) ∧ ((t16.2.1.1 = y.2.1) ∧ (t16.2.1.2.1 = y.2.2.1) ∧ (t16.2.1.2.2.1 = y.2.2.2.1) ∧ True) ∧ (t46_19 = y.2.2.2.2.1) ∧ q) (fun _ h => ⟨trivial, rfl, rfl, rfl, ⟨rfl, rfl, rfl, trivial⟩, rfl, h⟩)))
                )
              )
            ) (
              let t29_1 := decide (x.2.1 = (11 : Int))
              .ite t29_1 (
                .ite t29_1 (
                  .pre (p46 ((t16.2.1.1, t16.2.1.2.1, t16.2.1.2.2.1, ()), (8 : Int), ())) (
                  let t32_6 := f46 ((t16.2.1.1, t16.2.1.2.1, t16.2.1.2.2.1, ()), (8 : Int), ())
                  let t33_6 := IntKind.wrap .i64 ((1 : Int) + t32_6.1.1)
                  let t34_6 := FloatKind.nearest .f32 t33_6
                  let t35_6 := fop .quo .f32 t34_6 (1082130432 : Nat)
                  let t45_20 := [t35_6]
                  .step (k.2.2.2.2.1.length = k.2.2.2.2.1.length) (
                  .step (k.2.2.2.2.1.length + t45_20.length ≤ 1099511627776) (
                  let t46_20 := k.2.2.2.2.1 ++ t45_20
                  let t14_20 := IntKind.wrap .i64 (k.1 - (1 : Int))
                  .next (t14_20, t32_6.2.1.1, t32_6.2.1.2.1, t32_6.2.1.2.2.1, t46_20, ()) (fun y q => True ∧ (x.2.1 = x.2.1) ∧ (t46_20.length = y.2.2.2.2.1.length) ∧ (t14_20 = y.1) ∧ ((t32_6.2.1.1 = y.2.1) ∧ (t32_6.2.1.2.1 = y.2.2.1) ∧ (t32_6.2.1.2.2.1 = y.2.2.2.1) ∧ True) ∧ (t46_20 = y.2.2.2.2.1) ∧ q) (fun _ h => ⟨trivial, rfl, rfl, rfl, ⟨rfl, rfl, rfl, trivial⟩, rfl, h⟩))))
                ) (
                  let t37_6 := decide (x.2.1 = (12 : Int))
                  .ite t37_6 (
                    .pre (p46 ((t16.2.1.1, t16.2.1.2.1, t16.2.1.2.2.1, ()), (17 : Int), ())) (
                    let t39_6 := f46 ((t16.2.1.1, t16.2.1.2.1, t16.2.1.2.2.1, ()), (17 : Int), ())
                    let t40_6 := IntKind.wrap .i64 (t39_6.1.1 - (8 : Int))
                    let t41_6 := FloatKind.nearest .f32 t40_6
                    let t42_6 := fop .quo .f32 t41_6 (1098907648 : Nat)
                    let t45_21 := [t42_6]
                    .step (k.2.2.2.2.1.length = k.2.2.2.2.1.length) (
                    .step (k.2.2.2.2.1.length + t45_21.length ≤ 1099511627776) (
                    let t46_21 := k.2.2.2.2.1 ++ t45_21
                    let t14_21 := IntKind.wrap .i64 (k.1 - (1 : Int))
                    .next (t14_21, t39_6.2.1.1, t39_6.2.1.2.1, t39_6.2.1.2.2.1, t46_21, ()) (fun y q => True ∧ (x.2.1 = x.2.1) ∧ (t46_21.length = y.2.2.2.2.1.length) ∧ (t14_21 = y.1) ∧ ((t39_6.2.1.1 = y.2.1) ∧ (t39_6.2.1.2.1 = y.2.2.1) ∧ (t39_6.2.1.2.2.1 = y.2.2.2.1) ∧ True) ∧ (t46_21 = y.2.2.2.2.1) ∧ q) (fun _ h => ⟨trivial, rfl, rfl, rfl, ⟨rfl, rfl, rfl, trivial⟩, rfl, h⟩))))
                  ) (
                    let t45_22 := [t16.1.1]
                    .step (k.2.2.2.2.1.length = k.2.2.2.2.1.length) (
                    .step (k.2.2.2.2.1.length + t45_22.length ≤ 1099511627776) (
                    let t46_22 := k.2.2.2.2.1 ++ t45_22
                    let t14_22 := IntKind.wrap .i64 (k.1 - (1 : Int))
                    .next (t14_22, t16.2.1.1, t16.2.1.2.1, t16.2.1.2.2.1, t46_22, ()) (fun y q => True ∧ (x.2.1 = x.2.1) ∧ (t46_22.length = y.2.2.2.2.1.length) ∧ (t14_22 = y.1) ∧ ((t16.2.1.1 = y.2.1) ∧ (t16.2.1.2.1 = y.2.2.1) ∧ (t16.2.1.2.2.1 = y.2.2.2.1) ∧ True) ∧ (t46_22 = y.2.2.2.2.1) ∧ q) (fun _ h => ⟨trivial, rfl, rfl, rfl, ⟨rfl, rfl, rfl, trivial⟩, rfl, h⟩)))
                  )
                )
              ) (
                let t30_1 := decide (x.2.1 = (14 : Int))
                .ite t30_1 (
                  .pre (p46 ((t16.2.1.1, t16.2.1.2.1, t16.2.1.2.2.1, ()), (8 : Int), ())) (
                  let t32_7 := f46 ((t16.2.1.1, t16.2.1.2.1, t16.2.1.2.2.1, ()), (8 : Int), ())
                  let t33_7 := IntKind.wrap .i64 ((1 : Int) + t32_7.1.1)
                  let t34_7 := FloatKind.nearest .f32 t33_7
                  let t35_7 := fop .quo .f32 t34_7 (1082130432 : Nat)
                  let t45_23 := [t35_7]
                  .step (k.2.2.2.2.1.length = k.2.2.2.2.1.length) (
                  .step (k.2.2.2.2.1.length + t45_23.length ≤ 1099511627776) (
                  let t46_23 := k.2.2.2.2.1 ++ t45_23
                  let t14_23 := IntKind.wrap .i64 (k.1 - (1 : Int))
                  .next (t14_23, t32_7.2.1.1, t32_7.2.1.2.1, t32_7.2.1.2.2.1, t46_23, ()) (fun y q => True ∧ (x.2.1 = x.2.1) ∧ (t46_23.length = y.2.2.2.2.1.length) ∧ (t14_23 = y.1) ∧ ((t32_7.2.1.1 = y.2.1) ∧ (t32_7.2.1.2.1 = y.2.2.1) ∧ (t32_7.2.1.2.2.1 = y.2.2.2.1) ∧ True) ∧ (t46_23 = y.2.2.2.2.1) ∧ q) (fun _ h => ⟨trivial, rfl, rfl, rfl, ⟨rfl, rfl, rfl, trivial⟩, rfl, h⟩))))
                ) (
                  let t37_7 := decide (x.2.1 = (12 : Int))
                  .ite t37_7 (
                    .pre (p46 ((t16.2.1.1, t16.2.1.2.1, t16.2.1.2.2.1, ()), (17 : Int), ())) (
                    let t39_7 := f46 ((t16.2.1.1, t16.2.1.2.1, t16.2.1.2.2.1, ()), (17 : Int), ())
                    let t40_7 := IntKind.wrap .i64 (t39_7.1.1 - (8 : Int))
                    let t41_7 := FloatKind.nearest .f32 t40_7
                    let t42_7 := fop .quo .f32 t41_7 (1098907648 : Nat)
                    let t45_24 := [t42_7]
                    .step (k.2.2.2.2.1.length = k.2.2.2.2.1.length) (
                    .step (k.2.2.2.2.1.length + t45_24.length ≤ 1099511627776) (
                    let t46_24 := k.2.2.2.2.1 ++ t45_24
                    let t14_24 := IntKind.wrap .i64 (k.1 - (1 : Int))
                    .next (t14_24, t39_7.2.1.1, t39_7.2.1.2.1, t39_7.2.1.2.2.1, t46_24, ()) (fun y q => True ∧ (x.2.1 = x.2.1) ∧ (t46_24.length = y.2.2.2.2.1.length) ∧ (t14_24 = y.1) ∧ ((t39_7.2.1.1 = y.2.1) ∧ (t39_7.2.1.2.1 = y.2.2.1) ∧ (t39_7.2.1.2.2.1 = y.2.2.2.1) ∧ True) ∧ (t46_24 = y.2.2.2.2.1) ∧ q) (fun _ h => ⟨trivial, rfl, rfl, rfl, ⟨rfl, rfl, rfl, trivial⟩, rfl, h⟩))))
                  ) (
                    let t45_25 := [t16.1.1]
                    .step (k.2.2.2.2.1.length = k.2.2.2.2.1.length) (
                    .step (k.2.2.2.2.1.length + t45_25.length ≤ 1099511627776) (
                    let t46_25 := k.2.2.2.2.1 ++ t45_25
                    let t14_25 := IntKind.wrap .i64 (k.1 - (1 : Int))
                    .next (t14_25, t16.2.1.1, t16.2.1.2.1, t16.2.1.2.2.1, t46_25, ()) (fun y q => True ∧ (x.2.1 = x.2.1) ∧ (t46_25.length = y.2.2.2.2.1.length) ∧ (t14_25 = y.1) ∧ ((t16.2.1.1 = y.2.1) ∧ (t16.2.1.2.1 = y.2.2.1) ∧ (t16.2.1.2.2.1 = y.2.2.2.1) ∧ True) ∧ (t46_25 = y.2.2.2.2.1) ∧ q) (fun _ h => ⟨trivial, rfl, rfl, rfl, ⟨rfl, rfl, rfl, trivial⟩, rfl, h⟩)))
                  )
                )
              )
            )
          )
        )
      ) (
        let t21 := decide (x.2.1 = (2 : Int))
        .ite t21 (
          .ite t21 (
            .pre (p150 (t16.1.1, ())) (
            let t25_2 := f150 (t16.1.1, ())
            let t45_26 := [t25_2.1.1]
            .step (k.2.2.2.2.1.length = k.2.2.2.2.1.length) (
            .step (k.2.2.2.2.1.length + t45_26.length ≤ 1099511627776) (
            let t46_26 := k.2.2.2.2.1 ++ t45_26
            let t14_26 := IntKind.wrap .i64 (k.1 - (1 : Int))
            .next (t14_26, t16.2.1.1, t16.2.1.2.1, t16.2.1.2.2.1, t46_26, ()) (fun y q => True ∧ (x.2.1 = x.2.1) ∧ (t46_26.length = y.2.2.2.2.1.length) ∧ (t14_26 = y.1) ∧ ((t16.2.1.1 = y.2.1) ∧ (t16.2.1.2.1 = y.2.2.1) ∧ (t16.2.1.2.2.1 = y.2.2.2.1) ∧ True) ∧ (t46_26 = y.2.2.2.2.1) ∧ q) (fun _ h => ⟨trivial, rfl, rfl, rfl, ⟨rfl, rfl, rfl, trivial⟩, rfl, h⟩))))
          ) (
            let t27_2 := decide (x.2.1 = (8 : Int))
            .ite t27_2 (
              .ite t27_2 (
                .pre (p46 ((t16.2.1.1, t16.2.1.2.1, t16.2.1.2.2.1, ()), (8 : Int), ())) (
                let t32_8 := f46 ((t16.2.1.1, t16.2.1.2.1, t16.2.1.2.2.1, ()), (8 : Int), ())
                let t33_8 := IntKind.wrap .i64 ((1 : Int) + t32_8.1.1)
                let t34_8 := FloatKind.nearest .f32 t33_8
                let t35_8 := fop .quo .f32 t34_8 (1082130432 : Nat)
                let t45_27 := [t35_8]
                .step (k.2.2.2.2.1.length = k.2.2.2.2.1.length) (
                .step (k.2.2.2.2.1.length + t45_27.length ≤ 1099511627776) (
                let t46_27 := k.2.2.2.2.1 ++ t45_27
                let t14_27 := IntKind.wrap .i64 (k.1 - (1 : Int))
                .next (t14_27, t32_8.2.1.1, t32_8.2.1.2.1, t32_8.2.1.2.2.1, t46_27, ()) (fun y q => True ∧ (x.2.1 = x.2.1) ∧ (t46_27.length = y.2.2.2.2.1.length) ∧ (t14_27 = y.1) ∧ ((t32_8.2.1.1 = y.2.1) ∧ (t32_8.2.1.2.1 = y.2.2.1) ∧ (t32_8.2.1.2.2.1 = y.2.2.2.1) ∧ True) ∧ (t46_27 = y.2.2.2.2.1) ∧ q) (fun _ h => ⟨trivial, rfl, rfl, rfl, ⟨rfl, rfl, rfl, trivial⟩, rfl, h⟩))))
              ) (
                let t37_8 := decide (x.2.1 = (12 : Int))
                .ite t37_8 (
                  .pre (p46 ((t16.2.1.1, t16.2.1.2.1, t16.2.1.2.2.1, ()), (17 : Int), ())) (
                  let t39_8 := f46 ((t16.2.1.1, t16.2.1.2.1, t16.2.1.2.2.1, ()), (17 : Int), ())
                  let t40_8 := IntKind.wrap .i64 (t39_8.1.1 - (8 : Int))
                  let t41_8 := FloatKind.nearest .f32 t40_8
                  let t42_8 := fop .quo .f32 t41_8 (1098907648 : Nat)
                  let t45_28 := [t42_8]
                  .step (k.2.2.2.2.1.length = k.2.2.2.2.1.length) (
                  .step (k.2.2.2.2.1.length + t45_28.length ≤ 1099511627776) (
                  let t46_28 := k.2.2.2.2.1 ++ t45_28
                  let t14_28 := IntKind.wrap .i64 (k.1 - (1 : Int))
                  .next (t14_28, t39_8.2.1.1, t39_8.2.1.2.1, t39_8.2.1.2.2.1, t46_28, ()) (fun y q => True ∧ (x.2.1 = x.2.1) ∧ (t46_28.length = y.2.2.2.2.1.length) ∧ (t14_28 = y.1) ∧ ((t39_8.2.1.1 = y.2.1) ∧ (t39_8.2.1.2.1 = y.2.2.1) ∧ (t39_8.2.1.2.2.1 = y.2.2.2.1) ∧ True) ∧ (t46_28 = y.2.2.2.2.1) ∧ q) (fun _ h => ⟨trivial, rfl, rfl, rfl, ⟨rfl, rfl, rfl, trivial⟩, rfl, h⟩))))
                ) (
                  let t45_29 := [t16.1.1]
                  .step (k.2.2.2.2.1.length = k.2.2.2.2.1.length) (
                  .step (k.2.2.2.2.1.length + t45_29.length ≤ 1099511627776) (
                  let t46_29 := k.2.2.2.2.1 ++ t45_29
                  let t14_29 := IntKind.wrap .i64 (k.1 - (1 : Int))
                  .next (t14_29, t16.2.1.1, t16.2.1.2.1, t16.2.1.2.2.1, t46_29, ()) (fun y q => True ∧ (x.2.1 = x.2.1) ∧ (t46_29.length = y.2.2.2.2.1.length) ∧ (t14_29 = y.1) ∧ ((t16.2.1.1 = y.2.1) ∧ (t16.2.1.2.1 = y.2.2.1) ∧ (t16.2.1.2.2.1 = y.2.2.2.1) ∧ True) ∧ (t46_29 = y.2.2.2.2.1) ∧ q) (fun _ h => ⟨trivial, rfl, rfl, rfl, ⟨rfl, rfl, rfl, trivial⟩, rfl, h⟩)))
                )
              )
            ) (
              let t28_2 := decide (x.2.1 = (10 : Int))
              .ite t28_2 (
                .ite t28_2 (
                  .pre (p46 ((t16.2.1.1, t16.2.1.2.1, t16.2.1.2.2.1, ()), (8 : Int), ())) (
                  let t32_9 := f46 ((t16.2.1.1, t16.2.1.2.1, t16.2.1.2.2.1, ()), (8 : Int), ())
                  let t33_9 := IntKind.wrap .i64 ((1 : Int) + t32_9.1.1)
                  let t34_9 := FloatKind.nearest .f32 t33_9
                  let t35_9 := fop .quo .f32 t34_9 (1082130432 : Nat)
                  let t45_30 := [t35_9]
                  .step (k.2.2.2.2.1.length = k.2.2.2.2.1.length) (
                  .step (k.2.2.2.2.1.length + t45_30.length ≤ 1099511627776) (
                  let t46_30 := k.2.2.2.2.1 ++ t45_30
                  let t14_30 := IntKind.wrap .i64 (k.1 - (1 : Int))
                  .next (t14_30, t32_9.2.1.1, t32_9.2.1.2.1, t32_9.2.1.2.2.1, t46_30, ()) (fun y q => True ∧ (x.2.1 = x.2.1) ∧ (t46_30.length = y.2.2.2.2.1.length) ∧ (t14_30 = y.1) ∧ ((t32_9.2.1.1 = y.2.1) ∧ (t32_9.2.1.2.1 = y.2.2.1) ∧ (t32_9.2.1.2.2.1 = y.2.2.2.1) ∧ True) ∧ (t46_30 = y.2.2.2.2.1) ∧ q) (fun _ h => ⟨trivial, rfl, rfl, rfl, ⟨rfl, rfl, rfl, trivial⟩, rfl, h⟩))))
                ) (
                  let t37_9 := decide (x.2.1 = (12 : Int))
                  .ite t37_9 (
                    .pre (p46 ((t16.2.1.1, t16.2.1.2.1, t16.2.1.2.2.1, ()), (17 : Int), ())) (
                    let t39_9 := f46 ((t16.2.1.1, t16.2.1.2.1, t16.2.1.2.2.1, ()), (17 : Int), ())
                    let t40_9 := IntKind.wrap .i64 (t39_9.1.1 - (8 : Int))
                    let t41_9 := FloatKind.nearest .f32 t40_9
                    let t42_9 := fop .quo .f32 t41_9 (1098907648 : Nat)
                    let t45_31 := [t42_9]
                    .step (k.2.2.2.2.1.length = k.2.2.2.2.1.length) (
                    .step (k.2.2.2.2.1.length + t45_31.length ≤ 1099511627776) (
                    let t46_31 := k.2.2.2.2.1 ++ t45_31
                    let t14_31 := IntKind.wrap .i64 (k.1 - (1 : Int))
                    .next (t14_31, t39_9.2.1.1, t39_9.2.1.2.1, t39_9.2.1.2.2.1, t46_31, ()) (fun y q => True ∧ (x.2.1 = x.2.1) ∧ (t46_31.length = y.2.2.2.2.1.length) ∧ (t14_31 = y.1) ∧ ((t39_9.2.1.1 = y.2.1) ∧ (t39_9.2.1.2.1 = y.2.2.1) ∧ (t39_9.2.1.2.2.1 = y.2.2.2.1) ∧ True) ∧ (t46_31 = y.2.2.2.2.1) ∧ q) (fun _ h => ⟨trivial, rfl, rfl, rfl, ⟨rfl, rfl, rfl, trivial⟩, rfl, h⟩))))
                  ) (
                    let t45_32 := [t16.1.1]
                    .step (k.2.2.2.2.1.length = k.2.2.2.2.1.length) (
                    .step (k.2.2.2.2.1.length + t45_32.length ≤ 1099511627776) (
                    let t46_32 := k.2.2.2.2.1 ++ t45_32
                    let t14_32 := IntKind.wrap .i64 (k.1 - (1 : Int))
                    .next (t14_32, t16.2.1.1, t16.2.1.2.1, t16.2.1.2.2.1, t46_32, ()) (fun y q => True ∧ (x.2.1 = x.2.1) ∧ (t46_32.length = y.2.2.2.2.1.length) ∧ (t14_32 = y.1) ∧ ((t16.2.1.1 = y.2.1) ∧ (t16.2.1.2.1 = y.2.2.1) ∧ (t16.2.1.2.2.1 = y.2.2.2.1) ∧ True) ∧ (t46_32 = y.2.2.2.2.1) ∧ q) (fun _ h => ⟨trivial, rfl, rfl, rfl, ⟨rfl, rfl, rfl, trivial⟩, rfl, h⟩)))
                  )
                )
              ) (
                let t29_2 := decide (x.2.1 = (11 : Int))
                .ite t29_2 (
                  .ite t29_2 (
                    .pre (p46 ((t16.2.1.1, t16.2.1.2.1, t16.2.1.2.2.1, ()), (8 : Int), ())) (
                    let t32_10 := f46 ((t16.2.1.1, t16.2.1.2.1, t16.2.1.2.2.1, ()), (8 : Int), ())
                    let t33_10 := IntKind.wrap .i64 ((1 : Int) + t32_10.1.1)
                    let t34_10 := FloatKind.nearest .f32 t33_10
                    let t35_10 := fop .quo .f32 t34_10 (1082130432 : Nat)
                    let t45_33 := [t35_10]
                    .step (k.2.2.2.2.1.length = k.2.2.2.2.1.length) (
                    .step (k.2.2.2.2.1.length + t45_33.length ≤ 1099511627776) (
                    let t46_33 := k.2.2.2.2.1 ++ t45_33
                    let t14_33 := IntKind.wrap .i64 (k.1 - (1 : Int))
                    .next (t14_33, t32_10.2.1.1, t32_10.2.1.2.1, t32_10.2.1.2.2.1, t46_33, ()) (fun y q => True ∧ (x.2.1 = x.2.1) ∧ (t46_33.length = y.2.2.2.2.1.length) ∧ (t14_33 = y.1) ∧ ((t32_10.2.1.1 = y.2.1) ∧ (t32_10.2.1.2.1 = y.2.2.1) ∧ (t32_10.2.1.2.2.1 = y.2.2.2.1) ∧ True) ∧ (t46_33 = y.2.2.2.2.1) ∧ q) (fun _ h => ⟨trivial, rfl, rfl, rfl, ⟨rfl, rfl, rfl, trivial⟩, rfl, h⟩))))
                  ) (
                    let t37_10 := decide (x.2.1 = (12 : Int))
                    .ite t37_10 (
                      .pre (p46 ((t16.2.1.1, t16.2.1.2.1, t16.2.1.2.2.1, ()), (17 : Int), ())) (
                      let t39_10 := f46 ((t16.2.1.1, t16.2.1.2.1, t16.2.1.2.2.1, ()), (17 : Int), ())
                      let t40_10 := IntKind.wrap .i64 (t39_10.1.1 - (8 : Int))
                      let t41_10 := FloatKind.nearest .f32 t40_10
                      let t42_10 := fop .quo .f32 t41_10 (1098907648 : Nat)
                      let t45_34 := [t42_10]
                      .step (k.2.2.2.2.1.length = k.2.2.2.2.1.length) (
                      .step (k.2.2.2.2.1.length + t45_34.length ≤ 1099511627776) (
                      let t46_34 := k.2.2.2.2.1 ++ t45_34
                      let t14_34 := IntKind.wrap .i64 (k.1 - (1 : Int))
                      .next (t14_34, t39_10.2.1.1, t39_10.2.1.2.1, t39_10.2.1.2.2.1, t46_34, ()) (fun y q => True ∧ (x.2.1 = x.2.1) ∧ (t46_34.length = y.2.2.2.2.1.length) ∧ (t14_34 = y.1) ∧ ((t39_10.2.1.1 = y.2.1) ∧ (t39_10.2.1.2.1 = y.2.2.1) ∧ (t39_10.2.1.2.2.1 = y.2.2.2.1) ∧ True) ∧ (t46_34 = y.2.2.2.2.1) ∧ q) (fun _ h => ⟨trivial, rfl, rfl, rfl, ⟨rfl, rfl, rfl, trivial⟩, rfl, h⟩))))
                    ) (
                      let t45_35 := [t16.1.1]
                      .step (k.2.2.2.2.1.length = k.2.2.2.2.1.length) (
                      .step (k.2.2.2.2.1.length + t45_35.length ≤ 1099511627776) (
                      let t46_35 := k.2.2.2.2.1 ++ t45_35
                      let t14_35 := IntKind.wrap .i64 (k.1 - (1 : Int))
                      .next (t14_35, t16.2.1.1, t16.2.1.2.1, t16.2.1.2.2.1, t46_35, ()) (fun y q => True ∧ (x.2.1 = x.2.1) ∧ (t46_35.length = y.2.2.2.2.1.length) ∧ (t14_35 = y.1) ∧ ((t16.2.1.1 = y.2.1) ∧ (t16.2.1.2.1 = y.2.2.1) ∧ (t16.2.1.2.2.1 = y.2.2.2.1) ∧ True) ∧ (t46_35 = y.2.2.2.2.1) ∧ q) (fun _ h => ⟨trivial, rfl, rfl, rfl, ⟨rfl, rfl, rfl, trivial⟩, rfl, h⟩)))
                    )
                  )
                ) (
                  let t30_2 := decide (x.2.1 = (14 : Int))
                  .ite t30_2 (
                    .pre (p46 ((t16.2.1.1, t16.2.1.2.1, t16.2.1.2.2.1, ()), (8 : Int), ())) (
                    let t32_11 := f46 ((t16.2.1.1, t16.2.1.2.1, t16.2.1.2.2.1, ()), (8 : Int), ())
                    let t33_11 := IntKind.wrap .i64 ((1 : Int) + t32_11.1.1)
                    let t34_11 := FloatKind.nearest .f32 t33_11
                    let t35_11 := fop .quo .f32 t34_11 (1082130432 : Nat)
                    let t45_36 := [t35_11]
                    .step (k.2.2.2.2.1.length = k.2.2.2.2.1.length) (
                    .step (k.2.2.2.2.1.length + t45_36.length ≤ 1099511627776) (
                    let t46_36 := k.2.2.2.2.1 ++ t45_36
                    let t14_36 := IntKind.wrap .i64 (k.1 - (1 : Int))
                    .next (t14_36, t32_11.2.1.1, t32_11.2.1.2.1, t32_11.2.1.2.2.1, t46_36, ()) (fun y q => True ∧ (x.2.1 = x.2.1) ∧ (t46_36.length = y.2.2.2.2.1.length) ∧ (t14_36 = y.1) ∧ ((t32_11.2.1.1 = y.2.1) ∧ (t32_11.2.1.2.1 = y.2.2.1) ∧ (t32_11.2.1.2.2.1 = y.2.2.2.1) ∧ True) ∧ (t46_36 = y.2.2.2.2.1) ∧ q) (fun _ h => ⟨trivial, rfl, rfl, rfl, ⟨rfl, rfl, rfl, trivial⟩, rfl, h⟩))))
                  ) (
                    let t37_11 := decide (x.2.1 = (12 : Int))
                    .ite t37_11 (
                      .pre (p46 ((t16.2.1.1, t16.2.1.2.1, t16.2.1.2.2.1, ()), (17 : Int), ())) (
                      let t39_11 := f46 ((t16.2.1.1, t16.2.1.2.1, t16.2.1.2.2.1, ()), (17 : Int), ())
                      let t40_11 := IntKind.wrap .i64 (t39_11.1.1 - (8 : Int))
                      let t41_11 := FloatKind.nearest .f32 t40_11
                      let t42_11 := fop .quo .f32 t41_11 (1098907648 : Nat)
                      let t45_37 := [t42_11]
                      .step (k.2.2.2.2.1.length = k.2.2.2.2.1.length) (
                      .step (k.2.2.2.2.1.length + t45_37.length ≤ 1099511627776) (
                      let t46_37 := k.2.2.2.2.1 ++ t45_37
                      let t14_37 := IntKind.wrap .i64 (k.1 - (1 : Int))
                      .next (t14_37, t39_11.2.1.1, t39_11.2.1.2.1, t39_11.2.1.2.2.1, t46_37, ()) (fun y q => True ∧ (x.2.1 = x.2.1) ∧ (t46_37.length = y.2.2.2.2.1.length) ∧ (t14_37 = y.1) ∧ ((t39_11.2.1.1 = y.2.1) ∧ (t39_11.2.1.2.1 = y.2.2.1) ∧ (t39_11.2.1.2.2.1 = y.2.2.2.1) ∧ True) ∧ (t46_37 = y.2.2.2.2.1) ∧ q) (fun _ h => ⟨trivial, rfl, rfl, rfl, ⟨rfl, rfl, rfl, trivial⟩, rfl, h⟩))))
                    ) (
                      let t45_38 := [t16.1.1]
                      .step (k.2.2.2.2.1.length = k.2.2.2.2.1.length) (
                      .step (k.2.2.2.2.1.length + t45_38.length ≤ 1099511627776) (
                      let t46_38 := k.2.2.2.2.1 ++ t45_38
                      let t14_38 := IntKind.wrap .i64 (k.1 - (1 : Int))
                      .next (t14_38, t16.2.1.1, t16.2.1.2.1, t16.2.1.2.2.1, t46_38, ()) (fun y q => True ∧ (x.2.1 = x.2.1) ∧ (t46_38.length = y.2.2.2.2.1.length) ∧ (t14_38 = y.1) ∧ ((t16.2.1.1 = y.2.1) ∧ (t16.2.1.2.1 = y.2.2.1) ∧ (t16.2.1.2.2.1 = y.2.2.2.1) ∧ True) ∧ (t46_38 = y.2.2.2.2.1) ∧ q) (fun _ h => ⟨trivial, rfl, rfl, rfl, ⟨rfl, rfl, rfl, trivial⟩, rfl, h⟩)))
                    )
                  )
                )
              )
            )
          )
        ) (
          let t22 := decide (x.2.1 = (3 : Int))
          .ite t22 (
            .ite t22 (
              .pre (p150 (t16.1.1, ())) (
              let t25_3 := f150 (t16.1.1, ())
              let t45_39 := [t25_3.1.1]
              .step (k.2.2.2.2.1.length = k.2.2.2.2.1.length) (
              .step (k.2.2.2.2.1.length + t45_39.length ≤ 1099511627776) (
              let t46_39 := k.2.2.2.2.1 ++ t45_39
              let t14_39 := IntKind.wrap .i64 (k.1 - (1 : Int))
              .next (t14_39, t16.2.1.1, t16.2.1.2.1, t16.2.1.2.2.1, t46_39, ()) (fun y q => True ∧ (x.2.1 = x.2.1) ∧ (t46_39.length = y.2.2.2.2.1.length) ∧ (t14_39 = y.1) ∧ ((t16.2.1.1 = y.2.1) ∧ (t16.2.1.2.1 = y.2.2.1) ∧ (t16.2.1.2.2.1 = y.2.2.2.1) ∧ True) ∧ (t46_39 = y.2.2.2.2.1) ∧ q) (fun _ h => ⟨trivial, rfl, rfl, rfl, ⟨rfl, rfl, rfl, trivial⟩, rfl, h⟩))))
            ) (
              let t27_3 := decide (x.2.1 = (8 : Int))
              .ite t27_3 (
                .ite t27_3 (
                  .pre (p46 ((t16.2.1.1, t16.2.1.2.1, t16.2.1.2.2.1, ()), (8 : Int), ())) (
                  let t32_12 := f46 ((t16.2.1.1, t16.2.1.2.1, t16.2.1.2.2.1, ()), (8 : Int), ())
                  let t33_12 := IntKind.wrap .i64 ((1 : Int) + t32_12.1.1)
                  let t34_12 := FloatKind.nearest .f32 t33_12
                  let t35_12 := fop .quo .f32 t34_12 (1082130432 : Nat)
                  let t45_40 := [t35_12]
                  .step (k.2.2.2.2.1.length = k.2.2.2.2.1.length) (
                  .step (k.2.2.2.2.1.length + t45_40.length ≤ 1099511627776) (
                  let t46_40 := k.2.2.2.2.1 ++ t45_40
                  let t14_40 := IntKind.wrap .i64 (k.1 - (1 : Int))
                  .next (t14_40, t32_12.2.1.1, t32_12.2.1.2.1, t32_12.2.1.2.2.1, t46_40, ()) (fun y q => True ∧ (x.2.1 = x.2.1) ∧ (t46_40.length = y.2.2.2.2.1.length) ∧ (t14_40 = y.1) ∧ ((t32_12.2.1.1 = y.2.1) ∧ (t32_12.2.1.2.1 = y.2.2.1) ∧ (t32_12.2.1.2.2.1 = y.2.2.2.1) ∧ True) ∧ (t46_40 = y.2.2.2.2.1) ∧ q) (fun _ h => ⟨trivial, rfl, rfl, rfl, ⟨rfl, rfl, rfl, trivial⟩, rfl, h⟩))))
                ) (
                  let t37_12 := decide (x.2.1 = (12 : Int))
                  .ite t37_12 (
                    .pre (p46 ((t16.2.1.1, t16.2.1.2.1, t16.2.1.2.2.1, ()), (17 : Int), ())) (
                    let t39_12 := f46 ((t16.2.1.1, t16.2.1.2.1, t16.2.1.2.2.1, ()), (17 : Int), ())
                    let t40_12 := IntKind.wrap .i64 (t39_12.1.1 - (8 : Int))
                    let t41_12 := FloatKind.nearest .f32 t40_12
                    let t42_12 := fop .quo .f32 t41_12 (1098907648 : Nat)
                    let t45_41 := [t42_12]
                    .step (k.2.2.2.2.1.length = k.2.2.2.2.1.length) (
                    .step (k.2.2.2.2.1.length + t45_41.length ≤ 1099511627776) (
                    let t46_41 := k.2.2.2.2.1 ++ t45_41
                    let t14_41 := IntKind.wrap .i64 (k.1 - (1 : Int))
                    .next (t14_41, t39_12.2.1.1, t39_12.2.1.2.1, t39_12.2.1.2.2.1, t46_41, ()) (fun y q => True ∧ (x.2.1 = x.2.1) ∧ (t46_41.length = y.2.2.2.2.1.length) ∧ (t14_41 = y.1) ∧ ((t39_12.2.1.1 = y.2.1) ∧ (t39_12.2.1.2.1 = y.2.2.1) ∧ (t39_12.2.1.2.2.1 = y.2.2.2.1) ∧ True) ∧ (t46_41 = y.2.2.2.2.1) ∧ q) (fun _ h => ⟨trivial, rfl, rfl, rfl, ⟨rfl, rfl, rfl, trivial⟩, rfl, h⟩))))
                  ) (
                    let t45_42 := [t16.1.1]
                    .step (k.2.2.2.2.1.length = k.2.2.2.2.1.length) (
                    .step (k.2.2.2.2.1.length + t45_42.length ≤ 1099511627776) (
                    let t46_42 := k.2.2.2.2.1 ++ t45_42
                    let t14_42 := IntKind.wrap .i64 (k.1 - (1 : Int))
                    .next (t14_42, t16.2.1.1, t16.2.1.2.1, t16.2.1.2.2.1, t46_42, ()) (fun y q => True ∧ (x.2.1 = x.2.1) ∧ (t46_42.length = y.2.2.2.2.1.length) ∧ (t14_42 = y.1) ∧ ((t16.2.1.1 = y.2.1) ∧ (t16.2.1.2.1 = y.2.2.1) ∧ (t16.2.1.2.2.1 = y.2.2.2.1) ∧ True) ∧ (t46_42 = y.2.2.2.2.1) ∧ q) (fun _ h => ⟨trivial, rfl, rfl, rfl, ⟨rfl, rfl, rfl, trivial⟩, rfl, h⟩)))
                  )
                )
              ) (
                let t28_3 := decide (x.2.1 = (10 : Int))
                .ite t28_3 (
                  .ite t28_3 (
                    .pre (p46 ((t16.2.1.1, t16.2.1.2.1, t16.2.1.2.2.1, ()), (8 : Int), ())) (
                    let t32_13 := f46 ((t16.2.1.1, t16.2.1.2.1, t16.2.1.2.2.1, ()), (8 : Int), ())
                    let t33_13 := IntKind.wrap .i64 ((1 : Int) + t32_13.1.1)
                    let t34_13 := FloatKind.nearest .f32 t33_13
                    let t35_13 := fop .quo .f32 t34_13 (1082130432 : Nat)
                    let t45_43 := [t35_13]
                    .step (k.2.2.2.2.1.length = k.2.2.2.2.1.length) (
                    .step (k.2.2.2.2.1.length + t45_43.length ≤ 1099511627776) (
                    let t46_43 := k.2.2.2.2.1 ++ t45_43
                    let t14_43 := IntKind.wrap .i64 (k.1 - (1 : Int))
                    .next (t14_43, t32_13.2.1.1, t32_13.2.1.2.1, t32_13.2.1.2.2.1, t46_43, ()) (fun y q => True ∧ (x.2.1 = x.2.1) ∧ (t46_43.length = y.2.2.2.2.1.length) ∧ (t14_43 = y.1) ∧ ((t32_13.2.1.1 = y.2.1) ∧ (t32_13.2.1.2.1 = y.2.2.1) ∧ (t32_13.2.1.2.2.1 = y.2.2.2.1) ∧ True) ∧ (t46_43 = y.2.2.2.2.1) ∧ q) (fun _ h => ⟨trivial, rfl, rfl, rfl, ⟨rfl, rfl, rfl, trivial⟩, rfl, h⟩))))
                  ) (
                    let t37_13 := decide (x.2.1 = (12 : Int))
                    .ite t37_13 (
                      .pre (p46 ((t16.2.1.1, t16.2.1.2.1, t16.2.1.2.2.1, ()), (17 : Int), ())) (
                      let t39_13 := f46 ((t16.2.1.1, t16.2.1.2.1, t16.2.1.2.2.1, ()), (17 : Int), ())
                      let t40_13 := IntKind.wrap .i64 (t39_13.1.1 - (8 : Int))
                      let t41_13 := FloatKind.nearest .f32 t40_13
                      let t42_13 := fop .quo .f32 t41_13 (1098907648 : Nat)
                      let t45_44 := [t42_13]
                      .step (k.2.2.2.2.1.length = k.2.2.2.2.1.length) (
                      .step (k.2.2.2.2.1.length + t45_44.length ≤ 1099511627776) (
                      let t46_44 := k.2.2.2.2.1 ++ t45_44
                      let t14_44 := IntKind.wrap .i64 (k.1 - (1 : Int))
                      .next (t14_44, t39_13.2.1.1, t39_13.2.1.2.1, t39_13.2.1.2.2.1, t46_44, ()) (fun y q => True ∧ (x.2.1 = x.2.1) ∧ (t46_44.length = y.2.2.2.2.1.length) ∧ (t14_44 = y.1) ∧ ((t39_13.2.1.1 = y.2.1) ∧ (t39_13.2.1.2.1 = y.2.2.1) ∧ (t39_13.2.1.2.2.1 = y.2.2.2.1) ∧ True) ∧ (t46_44 = y.2.2.2.2.1) ∧ q) (fun _ h => ⟨trivial, rfl, rfl, rfl, ⟨rfl, rfl, rfl, trivial⟩, rfl, h⟩))))
                    ) (
                      let t45_45 := [t16.1.1]
                      .step (k.2.2.2.2.1.length = k.2.2.2.2.1.length) (
                      .step (k.2.2.2.2.1.length + t45_45.length ≤ 1099511627776) (
                      let t46_45 := k.2.2.2.2.1 ++ t45_45
                      let t14_45 := IntKind.wrap .i64 (k.1 - (1 : Int))
                      .next (t14_45, t16.2.1.1, t16.2.1.2.1, t16.2.1.2.2.1, t46_45, ()) (fun y q => True ∧ (x.2.1 = x.2.1) ∧ (t46_45.length = y.2.2.2.2.1.length) ∧ (t14_45 = y.1) ∧ ((t16.2.1.1 = y.2.1) ∧ (t16.2.1.2.1 = y.2.2.1) ∧ (t16.2.1.2.2.1 = y.2.2.2.1) ∧ True) ∧ (t46_45 = y.2.2.2.2.1) ∧ q) (fun _ h => ⟨trivial, rfl, rfl, rfl, ⟨rfl, rfl, rfl, trivial⟩, rfl, h⟩)))
                    )
                  )
                ) (
                  let t29_3 := decide (x.2.1 = (11 : Int))
                  .ite t29_3 (
                    .ite t29_3 (
                      .pre (p46 ((t16.2.1.1, t16.2.1.2.1, t16.2.1.2.2.1, ()), (8 : Int), ())) (
                      let t32_14 := f46 ((t16.2.1.1, t16.2.1.2.1, t16.2.1.2.2.1, ()), (8 : Int), ())
                      let t33_14 := IntKind.wrap .i64 ((1 : Int) + t32_14.1.1)
                      let t34_14 := FloatKind.nearest .f32 t33_14
                      let t35_14 := fop .quo .f32 t34_14 (1082130432 : Nat)
                      let t45_46 := [t35_14]
                      .step (k.2.2.2.2.1.length = k.2.2.2.2.1.length) (
                      .step (k.2.2.2.2.1.length + t45_46.length ≤ 1099511627776) (
                      let t46_46 := k.2.2.2.2.1 ++ t45_46
                      let t14_46 := IntKind.wrap .i64 (k.1 - (1 : Int))
                      .next (t14_46, t32_14.2.1.1, t32_14.2.1.2.1, t32_14.2.1.2.2.1, t46_46, ()) (fun y q => True ∧ (x.2.1 = x.2.1) ∧ (t46_46.length = y.2.2.2.2.1.length) ∧ (t14_46 = y.1) ∧ ((t32_14.2.1.1 = y.2.1) ∧ (t32_14.2.1.2.1 = y.2.2.1) ∧ (t32_14.2.1.2.2.1 = y.2.2.2.1) ∧ True) ∧ (t46_46 = y.2.2.2.2.1) ∧ q) (fun _ h => ⟨trivial, rfl, rfl, rfl, ⟨rfl, rfl, rfl, trivial⟩, rfl, h⟩))))
                    ) (
                      let t37_14 := decide (x.2.1 = (12 : Int))
                      .ite t37_14 (
                        .pre (p46 ((t16.2.1.1, t16.2.1.2.1, t16.2.1.2.2.1, ()), (17 : Int), ())) (
                        let t39_14 := f46 ((t16.2.1.1, t16.2.1.2.1, t16.2.1.2.2.1, ()), (17 : Int), ())
                        let t40_14 := IntKind.wrap .i64 (t39_14.1.1 - (8 : Int))
                        let t41_14 := FloatKind.nearest .f32 t40_14
                        let t42_14 := fop .quo .f32 t41_14 (1098907648 : Nat)
                        let t45_47 := [t42_14]
                        .step (k.2.2.2.2.1.length = k.2.2.2.2.1.length) (
                        .step (k.2.2.2.2.1.length + t45_47.length ≤ 1099511627776) (
                        let t46_47 := k.2.2.2.2.1 ++ t45_47
                        let t14_47 := IntKind.wrap .i64 (k.1 - (1 : Int))
                        .next (t14_47, t39_14.2.1.1, t39_14.2.1.2.1, t39_14.2.1.2.2.1, t46_47, ()) (fun y q => True ∧ (x.2.1 = x.2.1) ∧ (t46_47.length = y.2.2.2.2.1.length) ∧ (t14_47 = y.1) ∧ ((t39_14.2.1.1 = y.2.1) ∧ (t39_14.2.1.2.1 = y.2.2.1) ∧ (t39_14.2.1.2.2.1 = y.2.2.2.1) ∧ True) ∧ (t46_47 = y.2.2.2.2.1) ∧ q) (fun _ h => ⟨trivial, rfl, rfl, rfl, ⟨rfl, rfl, rfl, trivial⟩, rfl, h⟩))))
                      ) (
                        let t45_48 := [t16.1.1]
                        .step (k.2.2.2.2.1.length = k.2.2.2.2.1.length) (
                        .step (k.2.2.2.2.1.length + t45_48.length ≤ 1099511627776) (
                        let t46_48 := k.2.2.2.2.1 ++ t45_48
                        let t14_48 := IntKind.wrap .i64 (k.1 - (1 : Int))
                        .next (t14_48, t16.2.1.1, t16.2.1.2.1, t16.2.1.2.2.1, t46_48, ()) (fun y q => True ∧ (x.2.1 = x.2.1) ∧ (t46_48.length = y.2.2.2.2.1.length) ∧ (t14_48 = y.1) ∧ ((t16.2.1.1 = y.2.1) ∧ (t16.2.1.2.1 = y.2.2.1) ∧ (t16.2.1.2.2.1 = y.2.2.2.1) ∧ True) ∧ (t46_48 = y.2.2.2.2.1) ∧ q) (fun _ h => ⟨trivial, rfl, rfl, rfl, ⟨rfl, rfl, rfl, trivial⟩, rfl, h⟩)))
                      )
                    )
                  ) (
                    let t30_3 := decide (x.2.1 = (14 : Int))
                    .ite t30_3 (
                      .pre (p46 ((t16.2.1.1, t16.2.1.2.1, t16.2.1.2.2.1, ()), (8 : Int), ())) (
                      let t32_15 := f46 ((t16.2.1.1, t16.2.1.2.1, t16.2.1.2.2.1, ()), (8 : Int), ())
                      let t33_15 := IntKind.wrap .i64 ((1 : Int) + t32_15.1.1)
                      let t34_15 := FloatKind.nearest .f32 t33_15
                      let t35_15 := fop .quo .f32 t34_15 (1082130432 : Nat)
                      let t45_49 := [t35_15]
                      .step (k.2.2.2.2.1.length = k.2.2.2.2.1.length) (
                      .step (k.2.2.2.2.1.length + t45_49.length ≤ 1099511627776) (
                      let t46_49 := k.2.2.2.2.1 ++ t45_49
                      let t14_49 := IntKind.wrap .i64 (k.1 - (1 : Int))
                      .next (t14_49, t32_15.2.1.1, t32_15.2.1.2.1, t32_15.2.1.2.2.1, t46_49, ()) (fun y q => True ∧ (x.2.1 = x.2.1) ∧ (t46_49.length = y.2.2.2.2.1.length) ∧ (t14_49 = y.1) ∧ ((t32_15.2.1.1 = y.2.1) ∧ (t32_15.2.1.2.1 = y.2.2.1) ∧ (t32_15.2.1.2.2.1 = y.2.2.2.1) ∧ True) ∧ (t46_49 = y.2.2.2.2.1) ∧ q) (fun _ h => ⟨trivial, rfl, rfl, rfl, ⟨rfl, rfl, rfl, trivial⟩, rfl, h⟩))))
                    ) (
                      let t37_15 := decide (x.2.1 = (12 : Int))
                      .ite t37_15 (
                        .pre (p46 ((t16.2.1.1, t16.2.1.2.1, t16.2.1.2.2.1, ()), (17 : Int), ())) (
                        let t39_15 := f46 ((t16.2.1.1, t16.2.1.2.1, t16.2.1.2.2.1, ()), (17 : Int), ())
                        let t40_15 := IntKind.wrap .i64 (t39_15.1.1 - (8 : Int))
                        let t41_15 := FloatKind.nearest .f32 t40_15
                        let t42_15 := fop .quo .f32 t41_15 (1098907648 : Nat)
                        let t45_50 := [t42_15]
                        .step (k.2.2.2.2.1.length = k.2.2.2.2.1.length) (
                        .step (k.2.2.2.2.1.length + t45_50.length ≤ 1099511627776) (
                        let t46_50 := k.2.2.2.2.1 ++ t45_50
                        let t14_50 := IntKind.wrap .i64 (k.1 - (1 : Int))
                        .next (t14_50, t39_15.2.1.1, t39_15.2.1.2.1, t39_15.2.1.2.2.1, t46_50, ()) (fun y q => True ∧ (x.2.1 = x.2.1) ∧ (t46_50.length = y.2.2.2.2.1.length) ∧ (t14_50 = y.1) ∧ ((t39_15.2.1.1 = y.2.1) ∧ (t39_15.2.1.2.1 = y.2.2.1) ∧ (t39_15.2.1.2.2.1 = y.2.2.2.1) ∧ True) ∧ (t46_50 = y.2.2.2.2.1) ∧ q) (fun _ h => ⟨trivial, rfl, rfl, rfl, ⟨rfl, rfl, rfl, trivial⟩, rfl, h⟩))))
                      ) (
                        let t45_51 := [t16.1.1]
                        .step (k.2.2.2.2.1.length = k.2.2.2.2.1.length) (
                        .step (k.2.2.2.2.1.length + t45_51.length ≤ 1099511627776) (
                        let t46_51 := k.2.2.2.2.1 ++ t45_51
                        let t14_51 := IntKind.wrap .i64 (k.1 - (1 : Int))
                        .next (t14_51, t16.2.1.1, t16.2.1.2.1, t16.2.1.2.2.1, t46_51, ()) (fun y q => True ∧ (x.2.1 = x.2.1) ∧ (t46_51.length = y.2.2.2.2.1.length) ∧ (t14_51 = y.1) ∧ ((t16.2.1.1 = y.2.1) ∧ (t16.2.1.2.1 = y.2.2.1) ∧ (t16.2.1.2.2.1 = y.2.2.2.1) ∧ True) ∧ (t46_51 = y.2.2.2.2.1) ∧ q) (fun _ h => ⟨trivial, rfl, rfl, rfl, ⟨rfl, rfl, rfl, trivial⟩, rfl, h⟩)))
                      )
                    )
                  )
                )
              )
            )
          ) (
            let t23 := decide (x.2.1 = (16 : Int))
            .ite t23 (
              .pre (p150 (t16.1.1, ())) (
              let t25_4 := f150 (t16.1.1, ())
              let t45_52 := [t25_4.1.1]
              .step (k.2.2.2.2.1.length = k.2.2.2.2.1.length) (
              .step (k.2.2.2.2.1.length + t45_52.length ≤ 1099511627776) (
              let t46_52 := k.2.2.2.2.1 ++ t45_52
              let t14_52 := IntKind.wrap .i64 (k.1 - (1 : Int))
              .next (t14_52, t16.2.1.1, t16.2.1.2.1, t16.2.1.2.2.1, t46_52, ()) (fun y q => True ∧ (x.2.1 = x.2.1) ∧ (t46_52.length = y.2.2.2.2.1.length) ∧ (t14_52 = y.1) ∧ ((t16.2.1.1 = y.2.1) ∧ (t16.2.1.2.1 = y.2.2.1) ∧ (t16.2.1.2.2.1 = y.2.2.2.1) ∧ True) ∧ (t46_52 = y.2.2.2.2.1) ∧ q) (fun _ h => ⟨trivial, rfl, rfl, rfl, ⟨rfl, rfl, rfl, trivial⟩, rfl, h⟩))))
            ) (
              let t27_4 := decide (x.2.1 = (8 : Int))
              .ite t27_4 (
                .ite t27_4 (
                  .pre (p46 ((t16.2.1.1, t16.2.1.2.1, t16.2.1.2.2.1, ()), (8 : Int), ())) (
                  let t32_16 := f46 ((t16.2.1.1, t16.2.1.2.1, t16.2.1.2.2.1, ()), (8 : Int), ())
                  let t33_16 := IntKind.wrap .i64 ((1 : Int) + t32_16.1.1)
                  let t34_16 := FloatKind.nearest .f32 t33_16
                  let t35_16 := fop .quo .f32 t34_16 (1082130432 : Nat)
                  let t45_53 := [t35_16]
                  .step (k.2.2.2.2.1.length = k.2.2.2.2.1.length) (
                  .step (k.2.2.2.2.1.length + t45_53.length ≤ 1099511627776) (
                  let t46_53 := k.2.2.2.2.1 ++ t45_53
                  let t14_53 := IntKind.wrap .i64 (k.1 - (1 : Int))
                  .next (t14_53, t32_16.2.1.1, t32_16.2.1.2.1, t32_16.2.1.2.2.1, t46_53, ()) (fun y q => True ∧ (x.2.1 = x.2.1) ∧ (t46_53.length = y.2.2.2.2.1.length) ∧ (t14_53 = y.1) ∧ ((t32_16.2.1.1 = y.2.1) ∧ (t32_16.2.1.2.1 = y.2.2.1) ∧ (t32_16.2.1.2.2.1 = y.2.2.2.1) ∧ True) ∧ (t46_53 = y.2.2.2.2.1) ∧ q) (fun _ h => ⟨trivial, rfl, rfl, rfl, ⟨rfl, rfl, rfl, trivial⟩, rfl, h⟩))))
                ) (
                  let t37_16 := decide (x.2.1 = (12 : Int))
                  .ite t37_16 (
                    .pre (p46 ((t16.2.1.1, t16.2.1.2.1, t16.2.1.2.2.1, ()), (17 : Int), ())) (
                    let t39_16 := f46 ((t16.2.1.1, t16.2.1.2.1, t16.2.1.2.2.1, ()), (17 : Int), ())
                    let t40_16 := IntKind.wrap .i64 (t39_16.1.1 - (8 : Int))
                    let t41_16 := FloatKind.nearest .f32 t40_16
                    let t42_16 := fop .quo .f32 t41_16 (1098907648 : Nat)
                    let t45_54 := [t42_16]
                    .step (k.2.2.2.2.1.length = k.2.2.2.2.1.length) (
                    .step (k.2.2.2.2.1.length + t45_54.length ≤ 1099511627776) (
                    let t46_54 := k.2.2.2.2.1 ++ t45_54
                    let t14_54 := IntKind.wrap .i64 (k.1 - (1 : Int))
                    .next (t14_54, t39_16.2.1.1, t39_16.2.1.2.1, t39_16.2.1.2.2.1, t46_54, ()) (fun y q => True ∧ (x.2.1 = x.2.1) ∧ (t46_54.length = y.2.2.2.2.1.length) ∧ (t14_54 = y.1) ∧ ((t39_16.2.1.1 = y.2.1) ∧ (t39_16.2.1.2.1 = y.2.2.1) ∧ (t39_16.2.1.2.2.1 = y.2.2.2.1) ∧ True) ∧ (t46_54 = y.2.2.2.2.1) ∧ q) (fun _ h => ⟨trivial, rfl, rfl, rfl, ⟨rfl, rfl, rfl, trivial⟩, rfl, h⟩))))
                  ) (
                    let t45_55 := [t16.1.1]
                    .step (k.2.2.2.2.1.length = k.2.2.2.2.1.length) (
                    .step (k.2.2.2.2.1.length + t45_55.length ≤ 1099511627776) (
                    let t46_55 := k.2.2.2.2.1 ++ t45_55
                    let t14_55 := IntKind.wrap .i64 (k.1 - (1 : Int))
                    .next (t14_55, t16.2.1.1, t16.2.1.2.1, t16.2.1.2.2.1, t46_55, ()) (fun y q => True ∧ (x.2.1 = x.2.1) ∧ (t46_55.length = y.2.2.2.2.1.length) ∧ (t14_55 = y.1) ∧ ((t16.2.1.1 = y.2.1) ∧ (t16.2.1.2.1 = y.2.2.1) ∧ (t16.2.1.2.2.1 = y.2.2.2.1) ∧ True) ∧ (t46_55 = y.2.2.2.2.1) ∧ q) (fun _ h => ⟨trivial, rfl, rfl, rfl, ⟨rfl, rfl, rfl, trivial⟩, rfl, h⟩)))
                  )
                )
              ) (
                let t28_4 := decide (x.2.1 = (10 : Int))
                .ite t28_4 (
                  .ite t28_4 (
                    .pre (p46 ((t16.2.1.1, t16.2.1.2.1, t16.2.1.2.2.1, ()), (8 : Int), ())) (
                    let t32_17 := f46 ((t16.2.1.1, t16.2.1.2.1, t16.2.1.2.2.1, ()), (8 : Int), ())
                    let t33_17 := IntKind.wrap .i64 ((1 : Int) + t32_17.1.1)
                    let t34_17 := FloatKind.nearest .f32 t33_17
                    let t35_17 := fop .quo .f32 t34_17 (1082130432 : Nat)
                    let t45_56 := [t35_17]
                    .step (k.2.2.2.2.1.length = k.2.2.2.2.1.length) (
                    .step (k.2.2.2.2.1.length + t45_56.length ≤ 1099511627776) (
                    let t46_56 := k.2.2.2.2.1 ++ t45_56
                    let t14_56 := IntKind.wrap .i64 (k.1 - (1 : Int))
                    .next (t14_56, t32_17.2.1.1, t32_17.2.1.2.1, t32_17.2.1.2.2.1, t46_56, ()) (fun y q => True ∧ (x.2.1 = x.2.1) ∧ (t46_56.length = y.2.2.2.2.1.length) ∧ (t14_56 = y.1) ∧ ((t32_17.2.1.1 = y.2.1) ∧ (t32_17.2.1.2.1 = y.2.2.1) ∧ (t32_17.2.1.2.2.1 = y.2.2.2.1) ∧ True) ∧ (t46_56 = y.2.2.2.2.1) ∧ q) (fun _ h => ⟨trivial, rfl, rfl, rfl, ⟨rfl, rfl, rfl, trivial⟩, rfl, h⟩))))
                  ) (
                    let t37_17 := decide (x.2.1 = (12 : Int))
                    .ite t37_17 (
                      .pre (p46 ((t16.2.1.1, t16.2.1.2.1, t16.2.1.2.2.1, ()), (17 : Int), ())) (
                      let t39_17 := f46 ((t16.2.1.1, t16.2.1.2.1, t16.2.1.2.2.1, ()), (17 : Int), ())
                      let t40_17 := IntKind.wrap .i64 (t39_17.1.1 - (8 : Int))
                      let t41_17 := FloatKind.nearest .f32 t40_17
                      let t42_17 := fop .quo .f32 t41_17 (1098907648 : Nat)
                      let t45_57 := [t42_17]
                      .step (k.2.2.2.2.1.length = k.2.2.2.2.1.length) (
                      .step (k.2.2.2.2.1.length + t45_57.length ≤ 1099511627776) (
                      let t46_57 := k.2.2.2.2.1 ++ t45_57
                      let t14_57 := IntKind.wrap .i64 (k.1 - (1 : Int))
                      .next (t14_57, t39_17.2.1.1, t39_17.2.1.2.1, t39_17.2.1.2.2.1, t46_57, ()) (fun y q => True ∧ (x.2.1 = x.2.1) ∧ (t46_57.length = y.2.2.2.2.1.length) ∧ (t14_57 = y.1) ∧ ((t39_17.2.1.1 = y.2.1) ∧ (t39_17.2.1.2.1 = y.2.2.1) ∧ (t39_17.2.1.2.2.1 = y.2.2.2.1) ∧ True) ∧ (t46_57 = y.2.2.2.2.1) ∧ q) (fun _ h => ⟨trivial, rfl, rfl, rfl, ⟨rfl, rfl, rfl, trivial⟩, rfl, h⟩))))
                    ) (
                      let t45_58 := [t16.1.1]
                      .step (k.2.2.2.2.1.length = k.2.2.2.2.1.length) (
                      .step (k.2.2.2.2.1.length + t45_58.length ≤ 1099511627776) (
                      let t46_58 := k.2.2.2.2.1 ++ t45_58
                      let t14_58 := IntKind.wrap .i64 (k.1 - (1 : Int))
                      .next (t14_58, t16.2.1.1, t16.2.1.2.1, t16.2.1.2.2.1, t46_58, ()) (fun y q => True ∧ (x.2.1 = x.2.1) ∧ (t46_58.length = y.2.2.2.2.1.length) ∧ (t14_58 = y.1) ∧ ((t16.2.1.1 = y.2.1) ∧ (t16.2.1.2.1 = y.2.2.1) ∧ (t16.2.1.2.2.1 = y.2.2.2.1) ∧ True) ∧ (t46_58 = y.2.2.2.2.1) ∧ q) (fun _ h => ⟨trivial, rfl, rfl, rfl, ⟨rfl, rfl, rfl, trivial⟩, rfl, h⟩)))
                    )
                  )
                ) (
                  let t29_4 := decide (x.2.1 = (11 : Int))
                  .ite t29_4 (
                    .ite t29_4 (
                      .pre (p46 ((t16.2.1.1, t16.2.1.2.1, t16.2.1.2.2.1, ()), (8 : Int), ())) (
                      let t32_18 := f46 ((t16.2.1.1, t16.2.1.2.1, t16.2.1.2.2.1, ()), (8 : Int), ())
                      let t33_18 := IntKind.wrap .i64 ((1 : Int) + t32_18.1.1)
                      let t34_18 := FloatKind.nearest .f32 t33_18
                      let t35_18 := fop .quo .f32 t34_18 (1082130432 : Nat)
                      let t45_59 := [t35_18]
                      .step (k.2.2.2.2.1.length = k.2.2.2.2.1.length) (
                      .step (k.2.2.2.2.1.length + t45_59.length ≤ 1099511627776) (
                      let t46_59 := k.2.2.2.2.1 ++ t45_59
                      let t14_59 := IntKind.wrap .i64 (k.1 - (1 : Int))
                      .next (t14_59, t32_18.2.1.1, t32_18.2.1.2.1, t32_18.2.1.2.2.1, t46_59, ()) (fun y q => True ∧ (x.2.1 = x.2.1) ∧ (t46_59.length = y.2.2.2.2.1.length) ∧ (t14_59 = y.1) ∧ ((t32_18.2.1.1 = y.2.1) ∧ (t32_18.2.1.2.1 = y.2.2.1) ∧ (t32_18.2.1.2.2.1 = y.2.2.2.1) ∧ True) ∧ (t46_59 = y.2.2.2.2.1) ∧ q) (fun _ h => ⟨trivial, rfl, rfl, rfl, ⟨rfl, rfl, rfl, trivial⟩, rfl, h⟩))))
                    ) (
                      let t37_18 := decide (x.2.1 = (12 : Int))
                      .ite t37_18 (
                        .pre (p46 ((t16.2.1.1, t16.2.1.2.1, t16.2.1.2.2.1, ()), (17 : Int), ())) (
                        let t39_18 := f46 ((t16.2.1.1, t16.2.1.2.1, t16.2.1.2.2.1, ()), (17 : Int), ())
                        let t40_18 := IntKind.wrap .i64 (t39_18.1.1 - (8 : Int))
                        let t41_18 := FloatKind.nearest .f32 t40_18
                        let t42_18 := fop .quo .f32 t41_18 (1098907648 : Nat)
                        let t45_60 := [t42_18]
                        .step (k.2.2.2.2.1.length = k.2.2.2.2.1.length) (
                        .step (k.2.2.2.2.1.length + t45_60.length ≤ 1099511627776) (
                        let t46_60 := k.2.2.2.2.1 ++ t45_60
                        let t14_60 := IntKind.wrap .i64 (k.1 - (1 : Int))
                        .next (t14_60, t39_18.2.1.1, t39_18.2.1.2.1, t39_18.2.1.2.2.1, t46_60, ()) (fun y q => True ∧ (x.2.1 = x.2.1) ∧ (t46_60.length = y.2.2.2.2.1.length) ∧ (t14_60 = y.1) ∧ ((t39_18.2.1.1 = y.2.1) ∧ (t39_18.2.1.2.1 = y.2.2.1) ∧ (t39_18.2.1.2.2.1 = y.2.2.2.1) ∧ True) ∧ (t46_60 = y.2.2.2.2.1) ∧ q) (fun _ h => ⟨trivial, rfl, rfl, rfl, ⟨rfl, rfl, rfl, trivial⟩, rfl, h⟩))))
                      ) (
                        let t45_61 := [t16.1.1]
                        .step (k.2.2.2.2.1.length = k.2.2.2.2.1.length) (
                        .step (k.2.2.2.2.1.length + t45_61.length ≤ 1099511627776) (
                        let t46_61 := k.2.2.2.2.1 ++ t45_61
                        let t14_61 := IntKind.wrap .i64 (k.1 - (1 : Int))
                        .next (t14_61, t16.2.1.1, t16.2.1.2.1, t16.2.1.2.2.1, t46_61, ()) (fun y q => True ∧ (x.2.1 = x.2.1) ∧ (t46_61.length = y.2.2.2.2.1.length) ∧ (t14_61 = y.1) ∧ ((t16.2.1.1 = y.2.1) ∧ (t16.2.1.2.1 = y.2.2.1) ∧ (t16.2.1.2.2.1 = y.2.2.2.1) ∧ True) ∧ (t46_61 = y.2.2.2.2.1) ∧ q) (fun _ h => ⟨trivial, rfl, rfl, rfl, ⟨rfl, rfl, rfl, trivial⟩, rfl, h⟩)))
                      )
                    )
                  ) (
                    let t30_4 := decide (x.2.1 = (14 : Int))
                    .ite t30_4 (
                      .pre (p46 ((t16.2.1.1, t16.2.1.2.1, t16.2.1.2.2.1, ()), (8 : Int), ())) (
                      let t32_19 := f46 ((t16.2.1.1, t16.2.1.2.1, t16.2.1.2.2.1, ()), (8 : Int), ())
                      let t33_19 := IntKind.wrap .i64 ((1 : Int) + t32_19.1.1)
                      let t34_19 := FloatKind.nearest .f32 t33_19
                      let t35_19 := fop .quo .f32 t34_19 (1082130432 : Nat)
                      let t45_62 := [t35_19]
                      .step (k.2.2.2.2.1.length = k.2.2.2.2.1.length) (
                      .step (k.2.2.2.2.1.length + t45_62.length ≤ 1099511627776) (
                      let t46_62 := k.2.2.2.2.1 ++ t45_62
                      let t14_62 := IntKind.wrap .i64 (k.1 - (1 : Int))
                      .next (t14_62, t32_19.2.1.1, t32_19.2.1.2.1, t32_19.2.1.2.2.1, t46_62, ()) (fun y q => True ∧ (x.2.1 = x.2.1) ∧ (t46_62.length = y.2.2.2.2.1.length) ∧ (t14_62 = y.1) ∧ ((t32_19.2.1.1 = y.2.1) ∧ (t32_19.2.1.2.1 = y.2.2.1) ∧ (t32_19.2.1.2.2.1 = y.2.2.2.1) ∧ True) ∧ (t46_62 = y.2.2.2.2.1) ∧ q) (fun _ h => ⟨trivial, rfl, rfl, rfl, ⟨rfl, rfl, rfl, trivial⟩, rfl, h⟩))))
                    ) (
                      let t37_19 := decide (x.2.1 = (12 : Int))
                      .ite t37_19 (
                        .pre (p46 ((t16.2.1.1, t16.2.1.2.1, t16.2.1.2.2.1, ()), (17 : Int), ())) (
                        let t39_19 := f46 ((t16.2.1.1, t16.2.1.2.1, t16.2.1.2.2.1, ()), (17 : Int), ())
                        let t40_19 := IntKind.wrap .i64 (t39_19.1.1 - (8 : Int))
                        let t41_19 := FloatKind.nearest .f32 t40_19
                        let t42_19 := fop .quo .f32 t41_19 (1098907648 : Nat)
                        let t45_63 := [t42_19]
                        .step (k.2.2.2.2.1.length = k.2.2.2.2.1.length) (
                        .step (k.2.2.2.2.1.length + t45_63.length ≤ 1099511627776) (
                        let t46_63 := k.2.2.2.2.1 ++ t45_63
                        let t14_63 := IntKind.wrap .i64 (k.1 - (1 : Int))
                        .next (t14_63, t39_19.2.1.1, t39_19.2.1.2.1, t39_19.2.1.2.2.1, t46_63, ()) (fun y q => True ∧ (x.2.1 = x.2.1) ∧ (t46_63.length = y.2.2.2.2.1.length) ∧ (t14_63 = y.1) ∧ ((t39_19.2.1.1 = y.2.1) ∧ (t39_19.2.1.2.1 = y.2.2.1) ∧ (t39_19.2.1.2.2.1 = y.2.2.2.1) ∧ True) ∧ (t46_63 = y.2.2.2.2.1) ∧ q) (fun _ h => ⟨trivial, rfl, rfl, rfl, ⟨rfl, rfl, rfl, trivial⟩, rfl, h⟩))))
                      ) (
                        let t45_64 := [t16.1.1]
                        .step (k.2.2.2.2.1.length = k.2.2.2.2.1.length) (
                        .step (k.2.2.2.2.1.length + t45_64.length ≤ 1099511627776) (
                        let t46_64 := k.2.2.2.2.1 ++ t45_64
                        let t14_64 := IntKind.wrap .i64 (k.1 - (1 : Int))
                        .next (t14_64, t16.2.1.1, t16.2.1.2.1, t16.2.1.2.2.1, t46_64, ()) (fun y q => True ∧ (x.2.1 = x.2.1) ∧ (t46_64.length = y.2.2.2.2.1.length) ∧ (t14_64 = y.1) ∧ ((t16.2.1.1 = y.2.1) ∧ (t16.2.1.2.1 = y.2.2.1) ∧ (t16.2.1.2.2.1 = y.2.2.2.1) ∧ True) ∧ (t46_64 = y.2.2.2.2.1) ∧ q) (fun _ h => ⟨trivial, rfl, rfl, rfl, ⟨rfl, rfl, rfl, trivial⟩, rfl, h⟩)))
                      )
                    )
                  )
                )
              )
            )
          )
        )
      )
    ))
  ) (
    .exit (
    .step (k.2.2.2.2.1.length = k.2.2.2.2.1.length) <|
    .ret ((k.2.2.2.2.1, ()), ((k.2.1, k.2.2.1, k.2.2.2.1, ()), ())))
  )
def an113 (x : X113) : Nat → Option Ann := fun i =>
  bif Nat.beq i 3 then some ⟨K113_r3, fun k => ⟨[(0, .one (.ptr 0 0)), (1, .one (.d (.int .i64) x.2.1)), (5, .one (.osl (.flt .f32) 32768 k.2.2.2.2.1.length)), (6, .one (.d (.int .i64) k.1))], [(0, .box [(.d (.sl (.int .u8)) k.2.1), (.d (.int .i64) k.2.2.1), (.d (.int .u64) k.2.2.2.1)]), (32768, .vec (.flt .f32) k.2.2.2.2.1)]⟩, [.slot 5 (.flt .f32) 32768]⟩ else
  none
noncomputable def tr113 (p29 : X29 → List Prop) (f29 : X29 → W29) (p46 : X46 → List Prop) (f46 : X46 → W46) (p119 : X119 → List Prop) (f119 : X119 → W119) (p150 : X150 → List Prop) (f150 : X150 → W150) (x : X113) : VT W113 :=
  .pre (p119 (x.2.1, ())) (
  let t10 := f119 (x.2.1, ())
  .loop (t10.1.1, x.1.1, x.1.2.1, x.1.2.2.1, [], ()) (fun y q => True ∧ (x.2.1 = x.2.1) ∧ (0 = y.2.2.2.2.1.length) ∧ (t10.1.1 = y.1) ∧ ((x.1.1 = y.2.1) ∧ (x.1.2.1 = y.2.2.1) ∧ (x.1.2.2.1 = y.2.2.2.1) ∧ True) ∧ ([] = y.2.2.2.2.1) ∧ q) (fun _ h => ⟨trivial, rfl, rfl, rfl, ⟨rfl, rfl, rfl, trivial⟩, rfl, h⟩) (([], ()), (([], 0, 0, ()), ())) (lp113_1 p29 f29 p46 f46 p119 f119 p150 f150 x))
noncomputable def pp113 (x : X113) : List Prop := [(tr113 pp29 ff29 pp46 ff46 pp119 ff119 pp150 ff150 x).U]
noncomputable def ff113 (x : X113) : W113 := (tr113 pp29 ff29 pp46 ff46 pp119 ff119 pp150 ff150 x).W
noncomputable def s113 : FSpec := ⟨P113, R113, pp113, ff113⟩
def E113 (p29 : X29 → List Prop) (f29 : X29 → W29) (p46 : X46 → List Prop) (f46 : X46 → W46) (p119 : X119 → List Prop) (f119 : X119 → W119) (p150 : X150 → List Prop) (f150 : X150 → W150) : Env := fun f => get1 [(29, ⟨P29, R29, p29, f29⟩), (46, ⟨P46, R46, p46, f46⟩), (119, ⟨P119, R119, p119, f119⟩), (150, ⟨P150, R150, p150, f150⟩)] f
set_option maxRecDepth 100000 in
theorem e113 (p29 : X29 → List Prop) (f29 : X29 → W29) (p46 : X46 → List Prop) (f46 : X46 → W46) (p119 : X119 → List Prop) (f119 : X119 → W119) (p150 : X150 → List Prop) (f150 : X150 → W150) (x : X113) (Q : RsT R113 → OsT P113 → Prop) : evFun TT (E113 p29 f29 p46 f46 p119 f119 p150 f150) Try.f113.ntmps (an113 x) (bodyOf Try.f113) Try.f113.results.toList P113 R113 x Q = (tr113 p29 f29 p46 f46 p119 f119 p150 f150 x).V (fun w => Q w.1 w.2) := by kernel_rfl
set_option maxRecDepth 100000 in
theorem ok113 : EnvOK Try.prog (E113 pp29 ff29 pp46 ff46 pp119 ff119 pp150 ff150) := envOK_of (by
  intro p hp
  simp only [List.mem_cons, List.not_mem_nil, or_false] at hp
  rcases hp with rfl | rfl | rfl | rfl
  · exact snd29
  · exact snd46
  · exact snd119
  · exact snd150)
theorem b113 (x : X113) (h : (tr113 pp29 ff29 pp46 ff46 pp119 ff119 pp150 ff150 x).U) : Holds (evFun TT (E113 pp29 ff29 pp46 ff46 pp119 ff119 pp150 ff150) Try.f113.ntmps (an113 x) (bodyOf Try.f113) Try.f113.results.toList P113 R113 x (fun r o => (r, o) = (tr113 pp29 ff29 pp46 ff46 pp119 ff119 pp150 ff150 x).W)) := by
  constructor; rw [e113]; exact VT.sound _ h rfl
set_option maxRecDepth 100000 in
theorem snd113 : Sound Try.prog 113 s113 := sound_h (fs := s113) tt_ok mixed ok113 Try.func113 rfl (by kernel_rfl) (ann := an113) fun x h => b113 x (h _ (List.mem_singleton.2 rfl))
end Go.Proofs.Ytmlolnaannoifaa

/- A function of the program as a plain function. Written by wip/gen/gen.py. -/
namespace Go.Proofs.Ytmlolnaannoifaa

/- 74 loop.example/g01193/spec.l02DrawNode -/
abbrev P74 : List PK := [.box (.pair (.sl (.int .u8)) (.pair (.int .i64) (.pair (.int .u64) .unit))), .val (.sl (.int .i64))]
abbrev R74 : List RK := [.st (.pair (.int .i64) (.pair (.int .i64) (.pair (.int .i64) (.pair (.sl (.flt .f32)) .unit)))), .one (.int .i64)]
abbrev X74 : Type := (List Int × Int × Int × Unit) × List Int × Unit
abbrev W74 : Type := ((Int × Int × Int × List Nat × Unit) × Int × Unit) × ((List Int × Int × Int × Unit) × Unit)
noncomputable def tr74 (p46 : X46 → List Prop) (f46 : X46 → W46) (p111 : X111 → List Prop) (f111 : X111 → W111) (p112 : X112 → List Prop) (f112 : X112 → W112) (p113 : X113 → List Prop) (f113 : X113 → W113) (x : X74) : VT W74 :=
  .pre (p46 ((x.1.1, x.1.2.1, x.1.2.2.1, ()), (5 : Int), ())) (
  let t9 := f46 ((x.1.1, x.1.2.1, x.1.2.2.1, ()), (5 : Int), ())
  let t13 := (x.2.1.length : Int)
  let t14 := decide ((2 : Int) ≤ t13)
  .ite t14 (
    .pre (p111 ((t9.2.1.1, t9.2.1.2.1, t9.2.1.2.2.1, ()), (2 : Int), ())) (
    let t17 := f111 ((t9.2.1.1, t9.2.1.2.1, t9.2.1.2.2.1, ()), (2 : Int), ())
    .ite t17.1.1 (
      .pre (p46 ((t17.2.1.1, t17.2.1.2.1, t17.2.1.2.2.1, ()), (4 : Int), ())) (
      let t20 := f46 ((t17.2.1.1, t17.2.1.2.1, t17.2.1.2.2.1, ()), (4 : Int), ())
      let t21 := IntKind.wrap .i64 ((5 : Int) + t20.1.1)
      let t25 := (x.2.1.length : Int)
      let t26 := IntKind.wrap .i64 (t25 - (2 : Int))
      .step (0 ≤ t26) (
      .step (t26 < x.2.1.length) (
      let t27 := x.2.1.getD t26.toNat (0 : Int)
      let t32 := (x.2.1.length : Int)
      let t33 := IntKind.wrap .i64 (t32 - (1 : Int))
      .step (0 ≤ t33) (
      .step (t33 < x.2.1.length) (
      let t34 := x.2.1.getD t33.toNat (0 : Int)
      .pre (p113 ((t20.2.1.1, t20.2.1.2.1, t20.2.1.2.2.1, ()), t21, ())) (
      let t65 := f113 ((t20.2.1.1, t20.2.1.2.1, t20.2.1.2.2.1, ()), t21, ())
      .ret (((t21, t27, t34, t65.1.1, ()), (2 : Int), ()), ((t65.2.1.1, t65.2.1.2.1, t65.2.1.2.2.1, ()), ()))))))))
    ) (
      let t39 := (x.2.1.length : Int)
      let t40 := decide ((1 : Int) ≤ t39)
      .ite t40 (
        .pre (p111 ((t17.2.1.1, t17.2.1.2.1, t17.2.1.2.2.1, ()), (2 : Int), ())) (
        let t43 := f111 ((t17.2.1.1, t17.2.1.2.1, t17.2.1.2.2.1, ()), (2 : Int), ())
        .ite t43.1.1 (
          .pre (p46 ((t43.2.1.1, t43.2.1.2.1, t43.2.1.2.2.1, ()), (8 : Int), ())) (
          let t46 := f46 ((t43.2.1.1, t43.2.1.2.1, t43.2.1.2.2.1, ()), (8 : Int), ())
          let t47 := IntKind.wrap .i64 ((9 : Int) + t46.1.1)
          let t51 := (x.2.1.length : Int)
          let t52 := IntKind.wrap .i64 (t51 - (1 : Int))
          .step (0 ≤ t52) (
          .step (t52 < x.2.1.length) (
          let t53 := x.2.1.getD t52.toNat (0 : Int)
          .pre (p112 (t47, ())) (
          let t58 := f112 (t47, ())
          .ite t58.1.1 (
            .pre (p46 ((t46.2.1.1, t46.2.1.2.1, t46.2.1.2.2.1, ()), (3 : Int), ())) (
            let t60 := f46 ((t46.2.1.1, t46.2.1.2.1, t46.2.1.2.2.1, ()), (3 : Int), ())
            .pre (p113 ((t60.2.1.1, t60.2.1.2.1, t60.2.1.2.2.1, ()), t47, ())) (
            let t65_1 := f113 ((t60.2.1.1, t60.2.1.2.1, t60.2.1.2.2.1, ()), t47, ())
            .ret (((t47, t53, t60.1.1, t65_1.1.1, ()), (1 : Int), ()), ((t65_1.2.1.1, t65_1.2.1.2.1, t65_1.2.1.2.2.1, ()), ()))))
          ) (
            .pre (p113 ((t46.2.1.1, t46.2.1.2.1, t46.2.1.2.2.1, ()), t47, ())) (
            let t65_2 := f113 ((t46.2.1.1, t46.2.1.2.1, t46.2.1.2.2.1, ()), t47, ())
            .ret (((t47, t53, (0 : Int), t65_2.1.1, ()), (1 : Int), ()), ((t65_2.2.1.1, t65_2.2.1.2.1, t65_2.2.1.2.2.1, ()), ())))
          )))))
        ) (
          .pre (p113 ((t43.2.1.1, t43.2.1.2.1, t43.2.1.2.2.1, ()), t9.1.1, ())) (
          let t65_3 := f113 ((t43.2.1.1, t43.2.1.2.1, t43.2.1.2.2.1, ()), t9.1.1, ())
          .ret (((t9.1.1, (0 : Int), (0 : Int), t65_3.1.1, ()), (0 : Int), ()), ((t65_3.2.1.1, t65_3.2.1.2.1, t65_3.2.1.2.2.1, ()), ())))
        ))
      ) (
        .pre (p113 ((t17.2.1.1, t17.2.1.2.1, t17.2.1.2.2.1, ()), t9.1.1, ())) (
        let t65_4 := f113 ((t17.2.1.1, t17.2.1.2.1, t17.2.1.2.2.1, ()), t9.1.1, ())
        .ret (((t9.1.1, (0 : Int), (0 : Int), t65_4.1.1, ()), (0 : Int), ()), ((t65_4.2.1.1, t65_4.2.1.2.1, t65_4.2.1.2.2.1, ()), ())))
      )
    ))
  ) (
    let t39_1 := (x.2.1.length : Int)
    let t40_1 := decide ((1 : Int) ≤ t39_1)
    .ite t40_1 (
      .pre (p111 ((t9.2.1.1, t9.2.1.2.1, t9.2.1.2.2.1, ()), (2 : Int), ())) (
      let t43_1 := f111 ((t9.2.1.1, t9.2.1.2.1, t9.2.1.2.2.1, ()), (2 : Int), ())
      .ite t43_1.1.1 (
        .pre (p46 ((t43_1.2.1.1, t43_1.2.1.2.1, t43_1.2.1.2.2.1, ()), (8 : Int), ())) (
        let t46_1 := f46 ((t43_1.2.1.1, t43_1.2.1.2.1, t43_1.2.1.2.2.1, ()), (8 : Int), ())
        let t47_1 := IntKind.wrap .i64 ((9 : Int) + t46_1.1.1)
        let t51_1 := (x.2.1.length : Int)
        let t52_1 := IntKind.wrap .i64 (t51_1 - (1 : Int))
        .step (0 ≤ t52_1) (
        .step (t52_1 < x.2.1.length) (
        let t53_1 := x.2.1.getD t52_1.toNat (0 : Int)
        .pre (p112 (t47_1, ())) (
        let t58_1 := f112 (t47_1, ())
        .ite t58_1.1.1 (
          .pre (p46 ((t46_1.2.1.1, t46_1.2.1.2.1, t46_1.2.1.2.2.1, ()), (3 : Int), ())) (
          let t60_1 := f46 ((t46_1.2.1.1, t46_1.2.1.2.1, t46_1.2.1.2.2.1, ()), (3 : Int), ())
          .pre (p113 ((t60_1.2.1.1, t60_1.2.1.2.1, t60_1.2.1.2.2.1, ()), t47_1, ())) (
          let t65_5 := f113 ((t60_1.2.1.1, t60_1.2.1.2.1, t60_1.2.1.2.2.1, ()), t47_1, ())
          .ret (((t47_1, t53_1, t60_1.1.1, t65_5.1.1, ()), (1 : Int), ()), ((t65_5.2.1.1, t65_5.2.1.2.1, t65_5.2.1.2.2.1, ()), ()))))
        ) (
          .pre (p113 ((t46_1.2.1.1, t46_1.2.1.2.1, t46_1.2.1.2.2.1, ()), t47_1, ())) (
          let t65_6 := f113 ((t46_1.2.1.1, t46_1.2.1.2.1, t46_1.2.1.2.2.1, ()), t47_1, ())
          .ret (((t47_1, t53_1, (0 : Int), t65_6.1.1, ()), (1 : Int), ()), ((t65_6.2.1.1, t65_6.2.1.2.1, t65_6.2.1.2.2.1, ()), ())))
        )))))
      ) (
        .pre (p113 ((t43_1.2.1.1, t43_1.2.1.2.1, t43_1.2.1.2.2.1, ()), t9.1.1, ())) (
        let t65_7 := f113 ((t43_1.2.1.1, t43_1.2.1.2.1, t43_1.2.1.2.2.1, ()), t9.1.1, ())
        .ret (((t9.1.1, (0 : Int), (0 : Int), t65_7.1.1, ()), (0 : Int), ()), ((t65_7.2.1.1, t65_7.2.1.2.1, t65_7.2.1.2.2.1, ()), ())))
      ))
    ) (
      .pre (p113 ((t9.2.1.1, t9.2.1.2.1, t9.2.1.2.2.1, ()), t9.1.1, ())) (
      let t65_8 := f113 ((t9.2.1.1, t9.2.1.2.1, t9.2.1.2.2.1, ()), t9.1.1, ())
      .ret (((t9.1.1, (0 : Int), (0 : Int), t65_8.1.1, ()), (0 : Int), ()), ((t65_8.2.1.1, t65_8.2.1.2.1, t65_8.2.1.2.2.1, ()), ())))
    )
  ))
noncomputable def pp74 (x : X74) : List Prop := [(tr74 pp46 ff46 pp111 ff111 pp112 ff112 pp113 ff113 x).U]
noncomputable def ff74 (x : X74) : W74 := (tr74 pp46 ff46 pp111 ff111 pp112 ff112 pp113 ff113 x).W
noncomputable def s74 : FSpec := ⟨P74, R74, pp74, ff74⟩
def E74 (p46 : X46 → List Prop) (f46 : X46 → W46) (p111 : X111 → List Prop) (f111 : X111 → W111) (p112 : X112 → List Prop) (f112 : X112 → W112) (p113 : X113 → List Prop) (f113 : X113 → W113) : Env := fun f => get1 [(46, ⟨P46, R46, p46, f46⟩), (111, ⟨P111, R111, p111, f111⟩), (112, ⟨P112, R112, p112, f112⟩), (113, ⟨P113, R113, p113, f113⟩)] f
set_option maxRecDepth 100000 in
theorem e74 (p46 : X46 → List Prop) (f46 : X46 → W46) (p111 : X111 → List Prop) (f111 : X111 → W111) (p112 : X112 → List Prop) (f112 : X112 → W112) (p113 : X113 → List Prop) (f113 : X113 → W113) (x : X74) (Q : RsT R74 → OsT P74 → Prop) : evFun TT (E74 p46 f46 p111 f111 p112 f112 p113 f113) Try.f74.ntmps (fun _ => none) (bodyOf Try.f74) Try.f74.results.toList P74 R74 x Q = (tr74 p46 f46 p111 f111 p112 f112 p113 f113 x).V (fun w => Q w.1 w.2) := by kernel_rfl
set_option maxRecDepth 100000 in
theorem ok74 : EnvOK Try.prog (E74 pp46 ff46 pp111 ff111 pp112 ff112 pp113 ff113) := envOK_of (by
  intro p hp
  simp only [List.mem_cons, List.not_mem_nil, or_false] at hp
  rcases hp with rfl | rfl | rfl | rfl
  · exact snd46
  · exact snd111
  · exact snd112
  · exact snd113)
theorem b74 (x : X74) (h : (tr74 pp46 ff46 pp111 ff111 pp112 ff112 pp113 ff113 x).U) : Holds (evFun TT (E74 pp46 ff46 pp111 ff111 pp112 ff112 pp113 ff113) Try.f74.ntmps (fun _ => none) (bodyOf Try.f74) Try.f74.results.toList P74 R74 x (fun r o => (r, o) = (tr74 pp46 ff46 pp111 ff111 pp112 ff112 pp113 ff113 x).W)) := by
  constructor; rw [e74]; exact VT.sound _ h rfl
set_option maxRecDepth 100000 in
theorem snd74 : Sound Try.prog 74 s74 := sound_h (fs := s74) tt_ok mixed ok74 Try.func74 rfl (by kernel_rfl) (ann := fun _ _ => none) fun x h => b74 x (h _ (List.mem_singleton.2 rfl))
end Go.Proofs.Ytmlolnaannoifaa

/- A function of the program as a plain function. Written by wip/gen/gen.py. -/
namespace Go.Proofs.Ytmlolnaannoifaa

/- 75 loop.example/g01193/spec.l00Own -/
abbrev P75 : List PK := [.val (.sl (.int .i64))]
abbrev R75 : List RK := [.one (.own (.int .i64))]
abbrev X75 : Type := List Int × Unit
abbrev W75 : Type := (List Int × Unit) × Unit
noncomputable def tr75 (x : X75) : VT W75 :=
  .step (x.1.length ≤ 1099511627776) (
  .step (x.1.length = x.1.length) <|
  .ret ((x.1, ()), (())))
noncomputable def pp75 (x : X75) : List Prop := [(tr75 x).U]
noncomputable def ff75 (x : X75) : W75 := (tr75 x).W
noncomputable def s75 : FSpec := ⟨P75, R75, pp75, ff75⟩
def E75 : Env := fun f => get1 [] f
set_option maxRecDepth 100000 in
theorem e75 (x : X75) (Q : RsT R75 → OsT P75 → Prop) : evFun TT (E75) Try.f75.ntmps (fun _ => none) (bodyOf Try.f75) Try.f75.results.toList P75 R75 x Q = (tr75 x).V (fun w => Q w.1 w.2) := by kernel_rfl
set_option maxRecDepth 100000 in
theorem ok75 : EnvOK Try.prog E75 := envOK_of (by intro p hp; simp at hp)
theorem b75 (x : X75) (h : (tr75 x).U) : Holds (evFun TT (E75) Try.f75.ntmps (fun _ => none) (bodyOf Try.f75) Try.f75.results.toList P75 R75 x (fun r o => (r, o) = (tr75 x).W)) := by
  constructor; rw [e75]; exact VT.sound _ h rfl
set_option maxRecDepth 100000 in
theorem snd75 : Sound Try.prog 75 s75 := sound_h (fs := s75) tt_ok mixed ok75 Try.func75 rfl (by kernel_rfl) (ann := fun _ _ => none) fun x h => b75 x (h _ (List.mem_singleton.2 rfl))
end Go.Proofs.Ytmlolnaannoifaa

/- A function of the program as a plain function. Written by wip/gen/gen.py. -/
namespace Go.Proofs.Ytmlolnaannoifaa

/- 40 loop.example/g01193/spec.l02DrawOk -/
abbrev P40 : List PK := [.box (.pair (.sl (.int .u8)) (.pair (.int .i64) (.pair (.int .u64) .unit)))]
abbrev R40 : List RK := [.st (.pair (.sl (.pair (.int .i64) (.pair (.int .i64) (.pair (.int .i64) (.pair (.sl (.flt .f32)) .unit))))) .unit)]
abbrev X40 : Type := (List Int × Int × Int × Unit) × Unit
abbrev W40 : Type := (((List (Int × Int × Int × List Nat × Unit)) × Unit) × Unit) × ((List Int × Int × Int × Unit) × Unit)
abbrev K40_r4 : Type := Int × List Int × Int × Int × List Int × (List (Int × Int × Int × List Nat × Unit)) × Unit
abbrev K40_r9 : Type := List Int × Int × Int × (List (Int × Int × Int × List Nat × Unit)) × List Int × Unit
noncomputable def lp40_1 (p46 : X46 → List Prop) (f46 : X46 → W46) (p74 : X74 → List Prop) (f74 : X74 → W74) (p75 : X75 → List Prop) (f75 : X75 → W75) (x : X40) (k : K40_r9) : VT (K40_r9 ⊕ W40) :=
  let t44 := ((k.2.2.2.2.1.length : Nat) : Int)
  let t45 := decide ((1 : Int) < t44)
  .ite t45 (
    .pre (p46 ((k.1, k.2.1, k.2.2.1, ()), (3 : Int), ())) (
    let t47 := f46 ((k.1, k.2.1, k.2.2.1, ()), (3 : Int), ())
    let t48 := IntKind.wrap .i64 ((5 : Int) + t47.1.1)
    let t51 := ((k.2.2.2.2.1.length : Nat) : Int)
    let t52 := IntKind.wrap .i64 (t51 - (2 : Int))
    .step (k.2.2.2.2.1.length = k.2.2.2.2.1.length) (
    .step (0 ≤ t52) (
    .step (t52 < k.2.2.2.2.1.length) (
    let t53 := k.2.2.2.2.1.getD t52.toNat (0 : Int)
    let t57 := ((k.2.2.2.2.1.length : Nat) : Int)
    let t58 := IntKind.wrap .i64 (t57 - (1 : Int))
    .step (k.2.2.2.2.1.length = k.2.2.2.2.1.length) (
    .step (0 ≤ t58) (
    .step (t58 < k.2.2.2.2.1.length) (
    let t59 := k.2.2.2.2.1.getD t58.toNat (0 : Int)
    let t65 := ((k.2.2.2.2.1.length : Nat) : Int)
    let t66 := IntKind.wrap .i64 (t65 - (2 : Int))
    .step (k.2.2.2.2.1.length = k.2.2.2.2.1.length) (
    .step (0 ≤ (0 : Int)) (
    .step ((0 : Int) ≤ t66) (
    .step (t66 ≤ k.2.2.2.2.1.length) (
    let t67 := (k.2.2.2.2.1.take (t66).toNat).drop ((0 : Int)).toNat
    .pre (p75 (t67, ())) (
    let t68 := f75 (t67, ())
    let t71 := ((k.2.2.2.1.length : Nat) : Int)
    let t72 := [t71]
    .step (t68.1.1.length = t68.1.1.length) (
    .step (t68.1.1.length + t72.length ≤ 1099511627776) (
    let t73 := t68.1.1 ++ t72
    let t77 := [(t48, t53, t59, [], ())]
    .step (k.2.2.2.1.length = k.2.2.2.1.length) (
    .step (k.2.2.2.1.length + t77.length ≤ 1099511627776) (
    let t78 := k.2.2.2.1 ++ t77
    .next (t47.2.1.1, t47.2.1.2.1, t47.2.1.2.2.1, t78, t73, ()) (fun y q => True ∧ True ∧ True ∧ (t73.length = y.2.2.2.2.1.length) ∧ ((t47.2.1.1 = y.1) ∧ (t47.2.1.2.1 = y.2.1) ∧ (t47.2.1.2.2.1 = y.2.2.1) ∧ True) ∧ (t78 = y.2.2.2.1) ∧ (t73 = y.2.2.2.2.1) ∧ (True ∧ True) ∧ ((t78.length = y.2.2.2.1.length) ∧ True) ∧ q) (fun _ h => ⟨trivial, trivial, trivial, rfl, ⟨rfl, rfl, rfl, trivial⟩, rfl, rfl, ⟨trivial, trivial⟩, ⟨rfl, trivial⟩, h⟩)))))))))))))))))
  ) (
    .exit (
    .step (k.2.2.2.1.length = k.2.2.2.1.length) <|
    .ret (((k.2.2.2.1, ()), ()), ((k.1, k.2.1, k.2.2.1, ()), ())))
  )
noncomputable def lp40_2 (p46 : X46 → List Prop) (f46 : X46 → W46) (p74 : X74 → List Prop) (f74 : X74 → W74) (p75 : X75 → List Prop) (f75 : X75 → W75) (x : X40) (k : K40_r4) : VT (K40_r4 ⊕ W40) :=
  let t16 := decide ((0 : Int) < k.1)
  .ite t16 (
    .step (k.2.2.2.2.1.length = k.2.2.2.2.1.length) (
    .pre (p74 ((k.2.1, k.2.2.1, k.2.2.2.1, ()), k.2.2.2.2.1, ())) (
    let t22 := f74 ((k.2.1, k.2.2.1, k.2.2.2.1, ()), k.2.2.2.2.1, ())
    let t27 := ((k.2.2.2.2.1.length : Nat) : Int)
    let t29 := IntKind.wrap .i64 (t27 - t22.1.2.1)
    .step (k.2.2.2.2.1.length = k.2.2.2.2.1.length) (
    .step (0 ≤ (0 : Int)) (
    .step ((0 : Int) ≤ t29) (
    .step (t29 ≤ k.2.2.2.2.1.length) (
    let t30 := (k.2.2.2.2.1.take (t29).toNat).drop ((0 : Int)).toNat
    .pre (p75 (t30, ())) (
    let t31 := f75 (t30, ())
    let t34 := ((k.2.2.2.2.2.1.length : Nat) : Int)
    let t35 := [t34]
    .step (t31.1.1.length = t31.1.1.length) (
    .step (t31.1.1.length + t35.length ≤ 1099511627776) (
    let t36 := t31.1.1 ++ t35
    let t40 := [(t22.1.1.1, t22.1.1.2.1, t22.1.1.2.2.1, t22.1.1.2.2.2.1, ())]
    .step (k.2.2.2.2.2.1.length = k.2.2.2.2.2.1.length) (
    .step (k.2.2.2.2.2.1.length + t40.length ≤ 1099511627776) (
    let t41 := k.2.2.2.2.2.1 ++ t40
    let t18 := IntKind.wrap .i64 (k.1 - (1 : Int))
    .next (t18, t22.2.1.1, t22.2.1.2.1, t22.2.1.2.2.1, t36, t41, ()) (fun y q => True ∧ True ∧ True ∧ (t36.length = y.2.2.2.2.1.length) ∧ (t18 = y.1) ∧ ((t22.2.1.1 = y.2.1) ∧ (t22.2.1.2.1 = y.2.2.1) ∧ (t22.2.1.2.2.1 = y.2.2.2.1) ∧ True) ∧ (t36 = y.2.2.2.2.1) ∧ (t41 = y.2.2.2.2.2.1) ∧ (True ∧ True) ∧ ((t41.length = y.2.2.2.2.2.1.length) ∧ True) ∧ q) (fun _ h => ⟨trivial, trivial, trivial, rfl, rfl, ⟨rfl, rfl, rfl, trivial⟩, rfl, rfl, ⟨trivial, trivial⟩, ⟨rfl, trivial⟩, h⟩))))))))))))
  ) (
    .exit (
    .loop (k.2.1, k.2.2.1, k.2.2.2.1, k.2.2.2.2.2.1, k.2.2.2.2.1, ()) (fun y q => True ∧ True ∧ True ∧ (k.2.2.2.2.1.length = y.2.2.2.2.1.length) ∧ ((k.2.1 = y.1) ∧ (k.2.2.1 = y.2.1) ∧ (k.2.2.2.1 = y.2.2.1) ∧ True) ∧ (k.2.2.2.2.2.1 = y.2.2.2.1) ∧ (k.2.2.2.2.1 = y.2.2.2.2.1) ∧ (True ∧ True) ∧ ((k.2.2.2.2.2.1.length = y.2.2.2.1.length) ∧ True) ∧ q) (fun _ h => ⟨trivial, trivial, trivial, rfl, ⟨rfl, rfl, rfl, trivial⟩, rfl, rfl, ⟨trivial, trivial⟩, ⟨rfl, trivial⟩, h⟩) ((([], ()), ()), (([], 0, 0, ()), ())) (lp40_1 p46 f46 p74 f74 p75 f75 x))
  )
def an40 (x : X40) : Nat → Option Ann := fun i =>
  bif Nat.beq i 4 then some ⟨K40_r4, fun k => ⟨[(0, .one (.ptr 0 0)), (2, .one (.ptr 65584 0)), (3, .one (.ptr 65600 0)), (4, .one (.osl (.int .i64) 32768 k.2.2.2.2.1.length)), (5, .one (.d (.int .i64) k.1))], [(0, .box [(.d (.sl (.int .u8)) k.2.1), (.d (.int .i64) k.2.2.1), (.d (.int .u64) k.2.2.2.1)]), (32768, .vec (.int .i64) k.2.2.2.2.1), (32769, .vec (.pair (.int .i64) (.pair (.int .i64) (.pair (.int .i64) (.pair (.sl (.flt .f32)) .unit)))) k.2.2.2.2.2.1), (65584, .box [.nilsl]), (65600, .box [(.osl (.pair (.int .i64) (.pair (.int .i64) (.pair (.int .i64) (.pair (.sl (.flt .f32)) .unit)))) 32769 k.2.2.2.2.2.1.length)])]⟩, [.slot 4 (.int .i64) 32768, .cell 65600 0 (.pair (.int .i64) (.pair (.int .i64) (.pair (.int .i64) (.pair (.sl (.flt .f32)) .unit)))) 32769]⟩ else
  bif Nat.beq i 9 then some ⟨K40_r9, fun k => ⟨[(0, .one (.ptr 0 0)), (2, .one (.ptr 65584 0)), (3, .one (.ptr 65600 0)), (4, .one (.osl (.int .i64) 32770 k.2.2.2.2.1.length))], [(0, .box [(.d (.sl (.int .u8)) k.1), (.d (.int .i64) k.2.1), (.d (.int .u64) k.2.2.1)]), (32769, .vec (.pair (.int .i64) (.pair (.int .i64) (.pair (.int .i64) (.pair (.sl (.flt .f32)) .unit)))) k.2.2.2.1), (32770, .vec (.int .i64) k.2.2.2.2.1), (65584, .box [.nilsl]), (65600, .box [(.osl (.pair (.int .i64) (.pair (.int .i64) (.pair (.int .i64) (.pair (.sl (.flt .f32)) .unit)))) 32769 k.2.2.2.1.length)])]⟩, [.slot 4 (.int .i64) 32770]⟩ else
  none
noncomputable def tr40 (p46 : X46 → List Prop) (f46 : X46 → W46) (p74 : X74 → List Prop) (f74 : X74 → W74) (p75 : X75 → List Prop) (f75 : X75 → W75) (x : X40) : VT W40 :=
  .pre (p46 ((x.1.1, x.1.2.1, x.1.2.2.1, ()), (7 : Int), ())) (
  let t13 := f46 ((x.1.1, x.1.2.1, x.1.2.2.1, ()), (7 : Int), ())
  let t14 := IntKind.wrap .i64 ((1 : Int) + t13.1.1)
  .loop (t14, t13.2.1.1, t13.2.1.2.1, t13.2.1.2.2.1, [], [], ()) (fun y q => True ∧ True ∧ True ∧ (0 = y.2.2.2.2.1.length) ∧ (t14 = y.1) ∧ ((t13.2.1.1 = y.2.1) ∧ (t13.2.1.2.1 = y.2.2.1) ∧ (t13.2.1.2.2.1 = y.2.2.2.1) ∧ True) ∧ ([] = y.2.2.2.2.1) ∧ ([] = y.2.2.2.2.2.1) ∧ (True ∧ True) ∧ ((0 = y.2.2.2.2.2.1.length) ∧ True) ∧ q) (fun _ h => ⟨trivial, trivial, trivial, rfl, rfl, ⟨rfl, rfl, rfl, trivial⟩, rfl, rfl, ⟨trivial, trivial⟩, ⟨rfl, trivial⟩, h⟩) ((([], ()), ()), (([], 0, 0, ()), ())) (lp40_2 p46 f46 p74 f74 p75 f75 x))
noncomputable def pp40 (x : X40) : List Prop := [(tr40 pp46 ff46 pp74 ff74 pp75 ff75 x).U]
noncomputable def ff40 (x : X40) : W40 := (tr40 pp46 ff46 pp74 ff74 pp75 ff75 x).W
noncomputable def s40 : FSpec := ⟨P40, R40, pp40, ff40⟩
def E40 (p46 : X46 → List Prop) (f46 : X46 → W46) (p74 : X74 → List Prop) (f74 : X74 → W74) (p75 : X75 → List Prop) (f75 : X75 → W75) : Env := fun f => get1 [(46, ⟨P46, R46, p46, f46⟩), (74, ⟨P74, R74, p74, f74⟩), (75, ⟨P75, R75, p75, f75⟩)] f
set_option maxRecDepth 100000 in
theorem e40 (p46 : X46 → List Prop) (f46 : X46 → W46) (p74 : X74 → List Prop) (f74 : X74 → W74) (p75 : X75 → List Prop) (f75 : X75 → W75) (x : X40) (Q : RsT R40 → OsT P40 → Prop) : evFun TT (E40 p46 f46 p74 f74 p75 f75) Try.f40.ntmps (an40 x) (bodyOf Try.f40) Try.f40.results.toList P40 R40 x Q = (tr40 p46 f46 p74 f74 p75 f75 x).V (fun w => Q w.1 w.2) := by kernel_rfl
set_option maxRecDepth 100000 in
theorem ok40 : EnvOK Try.prog (E40 pp46 ff46 pp74 ff74 pp75 ff75) := envOK_of (by
  intro p hp
  simp only [List.mem_cons, List.not_mem_nil, or_false] at hp
  rcases hp with rfl | rfl | rfl
  · exact snd46
  · exact snd74
  · exact snd75)
theorem b40 (x : X40) (h : (tr40 pp46 ff46 pp74 ff74 pp75 ff75 x).U) : Holds (evFun TT (E40 pp46 ff46 pp74 ff74 pp75 ff75) Try.f40.ntmps (an40 x) (bodyOf Try.f40) Try.f40.results.toList P40 R40 x (fun r o => (r, o) = (tr40 pp46 ff46 pp74 ff74 pp75 ff75 x).W)) := by
  constructor; rw [e40]; exact VT.sound _ h rfl
set_option maxRecDepth 100000 in
theorem snd40 : Sound Try.prog 40 s40 := sound_h (fs := s40) tt_ok mixed ok40 Try.func40 rfl (by kernel_rfl) (ann := an40) fun x h => b40 x (h _ (List.mem_singleton.2 rfl))
end Go.Proofs.Ytmlolnaannoifaa

/- A function of the program as a plain function. Written by wip/gen/gen.py. -/
namespace Go.Proofs.Ytmlolnaannoifaa

/- 99 (*loop.example/g01193/spec.l00Src).text -/
abbrev P99 : List PK := [.box (.pair (.sl (.int .u8)) (.pair (.int .i64) (.pair (.int .u64) .unit))), .val (.sl .str)]
abbrev R99 : List RK := [.one .str]
abbrev X99 : Type := (List Int × Int × Int × Unit) × List ByteArray × Unit
abbrev W99 : Type := (ByteArray × Unit) × ((List Int × Int × Int × Unit) × Unit)
noncomputable def tr99 (p46 : X46 → List Prop) (f46 : X46 → W46) (x : X99) : VT W99 :=
  let t8 := (x.2.1.length : Int)
  .pre (p46 ((x.1.1, x.1.2.1, x.1.2.2.1, ()), t8, ())) (
  let t9 := f46 ((x.1.1, x.1.2.1, x.1.2.2.1, ()), t8, ())
  .step (0 ≤ t9.1.1) (
  .step (t9.1.1 < x.2.1.length) (
  let t10 := x.2.1.getD t9.1.1.toNat (ByteArray.empty : ByteArray)
  .ret ((t10, ()), ((t9.2.1.1, t9.2.1.2.1, t9.2.1.2.2.1, ()), ())))))
noncomputable def pp99 (x : X99) : List Prop := [(tr99 pp46 ff46 x).U]
noncomputable def ff99 (x : X99) : W99 := (tr99 pp46 ff46 x).W
noncomputable def s99 : FSpec := ⟨P99, R99, pp99, ff99⟩
def E99 (p46 : X46 → List Prop) (f46 : X46 → W46) : Env := fun f => get1 [(46, ⟨P46, R46, p46, f46⟩)] f
set_option maxRecDepth 100000 in
theorem e99 (p46 : X46 → List Prop) (f46 : X46 → W46) (x : X99) (Q : RsT R99 → OsT P99 → Prop) : evFun TT (E99 p46 f46) Try.f99.ntmps (fun _ => none) (bodyOf Try.f99) Try.f99.results.toList P99 R99 x Q = (tr99 p46 f46 x).V (fun w => Q w.1 w.2) := by kernel_rfl
set_option maxRecDepth 100000 in
theorem ok99 : EnvOK Try.prog (E99 pp46 ff46) := envOK_of (by
  intro p hp
  simp only [List.mem_cons, List.not_mem_nil, or_false] at hp
  rcases hp with rfl
  · exact snd46)
theorem b99 (x : X99) (h : (tr99 pp46 ff46 x).U) : Holds (evFun TT (E99 pp46 ff46) Try.f99.ntmps (fun _ => none) (bodyOf Try.f99) Try.f99.results.toList P99 R99 x (fun r o => (r, o) = (tr99 pp46 ff46 x).W)) := by
  constructor; rw [e99]; exact VT.sound _ h rfl
set_option maxRecDepth 100000 in
theorem snd99 : Sound Try.prog 99 s99 := sound_h (fs := s99) tt_ok mixed ok99 Try.func99 rfl (by kernel_rfl) (ann := fun _ _ => none) fun x h => b99 x (h _ (List.mem_singleton.2 rfl))
end Go.Proofs.Ytmlolnaannoifaa

/- A function of the program as a plain function. Written by wip/gen/gen.py. -/
namespace Go.Proofs.Ytmlolnaannoifaa

/- 100 loop.example/g01193/spec.l10DrawKeys -/
abbrev P100 : List PK := [.box (.pair (.sl (.int .u8)) (.pair (.int .i64) (.pair (.int .u64) .unit)))]
abbrev R100 : List RK := [.one (.sl (.pair (.int .i64) (.pair (.flt .f32) (.pair (.flt .f32) (.pair (.flt .f32) .unit)))))]
abbrev X100 : Type := (List Int × Int × Int × Unit) × Unit
abbrev W100 : Type := ((List (Int × Nat × Nat × Nat × Unit)) × Unit) × ((List Int × Int × Int × Unit) × Unit)
abbrev K100_r4 : Type := Int × Int × List Int × Int × Int × (List (Int × Nat × Nat × Nat × Unit)) × Unit
noncomputable def lp100_1 (p29 : X29 → List Prop) (f29 : X29 → W29) (p46 : X46 → List Prop) (f46 : X46 → W46) (p111 : X111 → List Prop) (f111 : X111 → W111) (x : X100) (k : K100_r4) : VT (K100_r4 ⊕ W100) :=
  let t14 := decide ((0 : Int) < k.2.1)
  .ite t14 (
    .pre (p29 ((k.2.2.1, k.2.2.2.1, k.2.2.2.2.1, ()), ())) (
    let t20 := f29 ((k.2.2.1, k.2.2.2.1, k.2.2.2.2.1, ()), ())
    .pre (p29 ((t20.2.1.1, t20.2.1.2.1, t20.2.1.2.2.1, ()), ())) (
    let t24 := f29 ((t20.2.1.1, t20.2.1.2.1, t20.2.1.2.2.1, ()), ())
    .pre (p29 ((t24.2.1.1, t24.2.1.2.1, t24.2.1.2.2.1, ()), ())) (
    let t28 := f29 ((t24.2.1.1, t24.2.1.2.1, t24.2.1.2.2.1, ()), ())
    let t32 := ((k.2.2.2.2.2.1.length : Nat) : Int)
    let t33 := decide ((0 : Int) < t32)
    .ite t33 (
      .pre (p111 ((t28.2.1.1, t28.2.1.2.1, t28.2.1.2.2.1, ()), (3 : Int), ())) (
      let t36 := f111 ((t28.2.1.1, t28.2.1.2.1, t28.2.1.2.2.1, ()), (3 : Int), ())
      .ite t36.1.1 (
        let t40 := ((k.2.2.2.2.2.1.length : Nat) : Int)
        let t41 := IntKind.wrap .i64 (t40 - (1 : Int))
        .step (k.2.2.2.2.2.1.length = k.2.2.2.2.2.1.length) (
        .step (0 ≤ t41) (
        .step (t41 < k.2.2.2.2.2.1.length) (
        let t42 := k.2.2.2.2.2.1.getD t41.toNat ((0, 0, 0, 0, ()) : (Int × Nat × Nat × Nat × Unit))
        let t48 := [(k.1, t42.2.1, t42.2.2.1, t42.2.2.2.1, ())]
        .step (k.2.2.2.2.2.1.length = k.2.2.2.2.2.1.length) (
        .step (k.2.2.2.2.2.1.length + t48.length ≤ 1099511627776) (
        let t49 := k.2.2.2.2.2.1 ++ t48
        .pre (p46 ((t36.2.1.1, t36.2.1.2.1, t36.2.1.2.2.1, ()), (8 : Int), ())) (
        let t52 := f46 ((t36.2.1.1, t36.2.1.2.1, t36.2.1.2.2.1, ()), (8 : Int), ())
        let t53 := IntKind.wrap .i64 ((1 : Int) + t52.1.1)
        let t54 := IntKind.wrap .i64 (k.1 + t53)
        let t16 := IntKind.wrap .i64 (k.2.1 - (1 : Int))
        .next (t54, t16, t52.2.1.1, t52.2.1.2.1, t52.2.1.2.2.1, t49, ()) (fun y q => True ∧ (t49.length = y.2.2.2.2.2.1.length) ∧ (t54 = y.1) ∧ (t16 = y.2.1) ∧ ((t52.2.1.1 = y.2.2.1) ∧ (t52.2.1.2.1 = y.2.2.2.1) ∧ (t52.2.1.2.2.1 = y.2.2.2.2.1) ∧ True) ∧ (t49 = y.2.2.2.2.2.1) ∧ q) (fun _ h => ⟨trivial, rfl, rfl, rfl, ⟨rfl, rfl, rfl, trivial⟩, rfl, h⟩)))))))
      ) (
        let t48_1 := [(k.1, t20.1.1, t24.1.1, t28.1.1, ())]
        .step (k.2.2.2.2.2.1.length = k.2.2.2.2.2.1.length) (
        .step (k.2.2.2.2.2.1.length + t48_1.length ≤ 1099511627776) (
        let t49_1 := k.2.2.2.2.2.1 ++ t48_1
        .pre (p46 ((t36.2.1.1, t36.2.1.2.1, t36.2.1.2.2.1, ()), (8 : Int), ())) (
        let t52_1 := f46 ((t36.2.1.1, t36.2.1.2.1, t36.2.1.2.2.1, ()), (8 : Int), ())
        let t53_1 := IntKind.wrap .i64 ((1 : Int) + t52_1.1.1)
        let t54_1 := IntKind.wrap .i64 (k.1 + t53_1)
        let t16_1 := IntKind.wrap .i64 (k.2.1 - (1 : Int))
        .next (t54_1, t16_1, t52_1.2.1.1, t52_1.2.1.2.1, t52_1.2.1.2.2.1, t49_1, ()) (fun y q => True ∧ (t49_1.length = y.2.2.2.2.2.1.length) ∧ (t54_1 = y.1) ∧ (t16_1 = y.2.1) ∧ ((t52_1.2.1.1 = y.2.2.1) ∧ (t52_1.2.1.2.1 = y.2.2.2.1) ∧ (t52_1.2.1.2.2.1 = y.2.2.2.2.1) ∧ True) ∧ (t49_1 = y.2.2.2.2.2.1) ∧ q) (fun _ h => ⟨trivial, rfl, rfl, rfl, ⟨rfl, rfl, rfl, trivial⟩, rfl, h⟩))))
      ))
    ) (
      let t48_2 := [(k.1, t20.1.1, t24.1.1, t28.1.1, ())]
      .step (k.2.2.2.2.2.1.length = k.2.2.2.2.2.1.length) (
      .step (k.2.2.2.2.2.1.length + t48_2.length ≤ 1099511627776) (
      let t49_2 := k.2.2.2.2.2.1 ++ t48_2
      .pre (p46 ((t28.2.1.1, t28.2.1.2.1, t28.2.1.2.2.1, ()), (8 : Int), ())) (
      let t52_2 := f46 ((t28.2.1.1, t28.2.1.2.1, t28.2.1.2.2.1, ()), (8 : Int), ())
      let t53_2 := IntKind.wrap .i64 ((1 : Int) + t52_2.1.1)
      let t54_2 := IntKind.wrap .i64 (k.1 + t53_2)
      let t16_2 := IntKind.wrap .i64 (k.2.1 - (1 : Int))
      .next (t54_2, t16_2, t52_2.2.1.1, t52_2.2.1.2.1, t52_2.2.1.2.2.1, t49_2, ()) (fun y q => True ∧ (t49_2.length = y.2.2.2.2.2.1.length) ∧ (t54_2 = y.1) ∧ (t16_2 = y.2.1) ∧ ((t52_2.2.1.1 = y.2.2.1) ∧ (t52_2.2.1.2.1 = y.2.2.2.1) ∧ (t52_2.2.1.2.2.1 = y.2.2.2.2.1) ∧ True) ∧ (t49_2 = y.2.2.2.2.2.1) ∧ q) (fun _ h => ⟨trivial, rfl, rfl, rfl, ⟨rfl, rfl, rfl, trivial⟩, rfl, h⟩))))
    ))))
  ) (
    .exit (
    .step (k.2.2.2.2.2.1.length = k.2.2.2.2.2.1.length) <|
    .ret ((k.2.2.2.2.2.1, ()), ((k.2.2.1, k.2.2.2.1, k.2.2.2.2.1, ()), ())))
  )
def an100 (x : X100) : Nat → Option Ann := fun i =>
  bif Nat.beq i 4 then some ⟨K100_r4, fun k => ⟨[(0, .one (.ptr 0 0)), (3, .one (.osl (.pair (.int .i64) (.pair (.flt .f32) (.pair (.flt .f32) (.pair (.flt .f32) .unit)))) 32768 k.2.2.2.2.2.1.length)), (4, .one (.d (.int .i64) k.1)), (5, .one (.d (.int .i64) k.2.1))], [(0, .box [(.d (.sl (.int .u8)) k.2.2.1), (.d (.int .i64) k.2.2.2.1), (.d (.int .u64) k.2.2.2.2.1)]), (32768, .vec (.pair (.int .i64) (.pair (.flt .f32) (.pair (.flt .f32) (.pair (.flt .f32) .unit)))) k.2.2.2.2.2.1)]⟩, [.slot 3 (.pair (.int .i64) (.pair (.flt .f32) (.pair (.flt .f32) (.pair (.flt .f32) .unit)))) 32768]⟩ else
  none
noncomputable def tr100 (p29 : X29 → List Prop) (f29 : X29 → W29) (p46 : X46 → List Prop) (f46 : X46 → W46) (p111 : X111 → List Prop) (f111 : X111 → W111) (x : X100) : VT W100 :=
  .pre (p46 ((x.1.1, x.1.2.1, x.1.2.2.1, ()), (4 : Int), ())) (
  let t9 := f46 ((x.1.1, x.1.2.1, x.1.2.2.1, ()), (4 : Int), ())
  .pre (p46 ((t9.2.1.1, t9.2.1.2.1, t9.2.1.2.2.1, ()), (4 : Int), ())) (
  let t11 := f46 ((t9.2.1.1, t9.2.1.2.1, t9.2.1.2.2.1, ()), (4 : Int), ())
  let t12 := IntKind.wrap .i64 ((1 : Int) + t11.1.1)
  .loop (t9.1.1, t12, t11.2.1.1, t11.2.1.2.1, t11.2.1.2.2.1, [], ()) (fun y q => True ∧ (0 = y.2.2.2.2.2.1.length) ∧ (t9.1.1 = y.1) ∧ (t12 = y.2.1) ∧ ((t11.2.1.1 = y.2.2.1) ∧ (t11.2.1.2.1 = y.2.2.2.1) ∧ (t11.2.1.2.2.1 = y.2.2.2.2.1) ∧ True) ∧ ([] = y.2.2.2.2.2.1) ∧ q) (fun _ h => ⟨trivial, rfl, rfl, rfl, ⟨rfl, rfl, rfl, trivial⟩, rfl, h⟩) (([], ()), (([], 0, 0, ()), ())) (lp100_1 p29 f29 p46 f46 p111 f111 x)))
noncomputable def pp100 (x : X100) : List Prop := [(tr100 pp29 ff29 pp46 ff46 pp111 ff111 x).U]
noncomputable def ff100 (x : X100) : W100 := (tr100 pp29 ff29 pp46 ff46 pp111 ff111 x).W
noncomputable def s100 : FSpec := ⟨P100, R100, pp100, ff100⟩
def E100 (p29 : X29 → List Prop) (f29 : X29 → W29) (p46 : X46 → List Prop) (f46 : X46 → W46) (p111 : X111 → List Prop) (f111 : X111 → W111) : Env := fun f => get1 [(29, ⟨P29, R29, p29, f29⟩), (46, ⟨P46, R46, p46, f46⟩), (111, ⟨P111, R111, p111, f111⟩)] f
set_option maxRecDepth 100000 in
theorem e100 (p29 : X29 → List Prop) (f29 : X29 → W29) (p46 : X46 → List Prop) (f46 : X46 → W46) (p111 : X111 → List Prop) (f111 : X111 → W111) (x : X100) (Q : RsT R100 → OsT P100 → Prop) : evFun TT (E100 p29 f29 p46 f46 p111 f111) Try.f100.ntmps (an100 x) (bodyOf Try.f100) Try.f100.results.toList P100 R100 x Q = (tr100 p29 f29 p46 f46 p111 f111 x).V (fun w => Q w.1 w.2) := by kernel_rfl
set_option maxRecDepth 100000 in
theorem ok100 : EnvOK Try.prog (E100 pp29 ff29 pp46 ff46 pp111 ff111) := envOK_of (by
  intro p hp
  simp only [List.mem_cons, List.not_mem_nil, or_false] at hp
  rcases hp with rfl | rfl | rfl
  · exact snd29
  · exact snd46
  · exact snd111)
theorem b100 (x : X100) (h : (tr100 pp29 ff29 pp46 ff46 pp111 ff111 x).U) : Holds (evFun TT (E100 pp29 ff29 pp46 ff46 pp111 ff111) Try.f100.ntmps (an100 x) (bodyOf Try.f100) Try.f100.results.toList P100 R100 x (fun r o => (r, o) = (tr100 pp29 ff29 pp46 ff46 pp111 ff111 x).W)) := by
  constructor; rw [e100]; exact VT.sound _ h rfl
set_option maxRecDepth 100000 in
theorem snd100 : Sound Try.prog 100 s100 := sound_h (fs := s100) tt_ok mixed ok100 Try.func100 rfl (by kernel_rfl) (ann := an100) fun x h => b100 x (h _ (List.mem_singleton.2 rfl))
end Go.Proofs.Ytmlolnaannoifaa

/- A function of the program as a plain function. Written by wip/gen/gen.py. -/
namespace Go.Proofs.Ytmlolnaannoifaa

/- 58 loop.example/g01193/spec.l10DrawThing -/
abbrev P58 : List PK := [.box (.pair (.sl (.int .u8)) (.pair (.int .i64) (.pair (.int .u64) .unit)))]
abbrev R58 : List RK := [.st (.pair .str (.pair (.sl (.pair (.int .i64) (.pair (.int .i64) (.pair (.int .i64) (.pair (.sl (.flt .f32)) .unit))))) (.pair (.sl (.pair (.int .i64) (.pair (.flt .f32) (.pair (.flt .f32) (.pair (.flt .f32) .unit))))) .unit)))]
abbrev X58 : Type := (List Int × Int × Int × Unit) × Unit
abbrev W58 : Type := ((ByteArray × (List (Int × Int × Int × List Nat × Unit)) × (List (Int × Nat × Nat × Nat × Unit)) × Unit) × Unit) × ((List Int × Int × Int × Unit) × Unit)
noncomputable def tr58 (p40 : X40 → List Prop) (f40 : X40 → W40) (p99 : X99 → List Prop) (f99 : X99 → W99) (p100 : X100 → List Prop) (f100 : X100 → W100) (x : X58) : VT W58 :=
  let t5 := [⟨#[97]⟩, ⟨#[98]⟩, ⟨#[98, 97, 108, 108]⟩, ⟨#[99]⟩, ⟨#[99, 117, 112]⟩, ⟨#[100]⟩, ⟨#[101]⟩, ⟨#[116, 97, 98, 108, 101]⟩]
  .pre (p99 ((x.1.1, x.1.2.1, x.1.2.2.1, ()), t5, ())) (
  let t6 := f99 ((x.1.1, x.1.2.1, x.1.2.2.1, ()), t5, ())
  .pre (p40 ((t6.2.1.1, t6.2.1.2.1, t6.2.1.2.2.1, ()), ())) (
  let t9 := f40 ((t6.2.1.1, t6.2.1.2.1, t6.2.1.2.2.1, ()), ())
  .pre (p100 ((t9.2.1.1, t9.2.1.2.1, t9.2.1.2.2.1, ()), ())) (
  let t12 := f100 ((t9.2.1.1, t9.2.1.2.1, t9.2.1.2.2.1, ()), ())
  .ret (((t6.1.1, t9.1.1.1, t12.1.1, ()), ()), ((t12.2.1.1, t12.2.1.2.1, t12.2.1.2.2.1, ()), ())))))
noncomputable def pp58 (x : X58) : List Prop := [(tr58 pp40 ff40 pp99 ff99 pp100 ff100 x).U]
noncomputable def ff58 (x : X58) : W58 := (tr58 pp40 ff40 pp99 ff99 pp100 ff100 x).W
noncomputable def s58 : FSpec := ⟨P58, R58, pp58, ff58⟩
def E58 (p40 : X40 → List Prop) (f40 : X40 → W40) (p99 : X99 → List Prop) (f99 : X99 → W99) (p100 : X100 → List Prop) (f100 : X100 → W100) : Env := fun f => get1 [(40, ⟨P40, R40, p40, f40⟩), (99, ⟨P99, R99, p99, f99⟩), (100, ⟨P100, R100, p100, f100⟩)] f
set_option maxRecDepth 100000 in
theorem e58 (p40 : X40 → List Prop) (f40 : X40 → W40) (p99 : X99 → List Prop) (f99 : X99 → W99) (p100 : X100 → List Prop) (f100 : X100 → W100) (x : X58) (Q : RsT R58 → OsT P58 → Prop) : evFun TT (E58 p40 f40 p99 f99 p100 f100) Try.f58.ntmps (fun _ => none) (bodyOf Try.f58) Try.f58.results.toList P58 R58 x Q = (tr58 p40 f40 p99 f99 p100 f100 x).V (fun w => Q w.1 w.2) := by kernel_rfl
set_option maxRecDepth 100000 in
theorem ok58 : EnvOK Try.prog (E58 pp40 ff40 pp99 ff99 pp100 ff100) := envOK_of (by
  intro p hp
  simp only [List.mem_cons, List.not_mem_nil, or_false] at hp
  rcases hp with rfl | rfl | rfl
  · exact snd40
  · exact snd99
  · exact snd100)
theorem b58 (x : X58) (h : (tr58 pp40 ff40 pp99 ff99 pp100 ff100 x).U) : Holds (evFun TT (E58 pp40 ff40 pp99 ff99 pp100 ff100) Try.f58.ntmps (fun _ => none) (bodyOf Try.f58) Try.f58.results.toList P58 R58 x (fun r o => (r, o) = (tr58 pp40 ff40 pp99 ff99 pp100 ff100 x).W)) := by
  constructor; rw [e58]; exact VT.sound _ h rfl
set_option maxRecDepth 100000 in
theorem snd58 : Sound Try.prog 58 s58 := sound_h (fs := s58) tt_ok mixed ok58 Try.func58 rfl (by kernel_rfl) (ann := fun _ _ => none) fun x h => b58 x (h _ (List.mem_singleton.2 rfl))
end Go.Proofs.Ytmlolnaannoifaa

/- A function of the program as a plain function. Written by wip/gen/gen.py. -/
namespace Go.Proofs.Ytmlolnaannoifaa

/- 166 loop.example/g01193/spec.l02Leaf -/
abbrev P166 : List PK := [.val (.int .i64)]
abbrev R166 : List RK := [.one .bool]
abbrev X166 : Type := Int × Unit
abbrev W166 : Type := (Bool × Unit) × Unit
noncomputable def tr166 (p149 : X149 → List Prop) (f149 : X149 → W149) (x : X166) : VT W166 :=
  .pre (p149 (x.1, (0 : Int), (4 : Int), ())) (
  let t4 := f149 (x.1, (0 : Int), (4 : Int), ())
  .ret ((t4.1.1, ()), (())))
noncomputable def pp166 (x : X166) : List Prop := [(tr166 pp149 ff149 x).U]
noncomputable def ff166 (x : X166) : W166 := (tr166 pp149 ff149 x).W
noncomputable def s166 : FSpec := ⟨P166, R166, pp166, ff166⟩
def E166 (p149 : X149 → List Prop) (f149 : X149 → W149) : Env := fun f => get1 [(149, ⟨P149, R149, p149, f149⟩)] f
set_option maxRecDepth 100000 in
theorem e166 (p149 : X149 → List Prop) (f149 : X149 → W149) (x : X166) (Q : RsT R166 → OsT P166 → Prop) : evFun TT (E166 p149 f149) Try.f166.ntmps (fun _ => none) (bodyOf Try.f166) Try.f166.results.toList P166 R166 x Q = (tr166 p149 f149 x).V (fun w => Q w.1 w.2) := by kernel_rfl
set_option maxRecDepth 100000 in
theorem ok166 : EnvOK Try.prog (E166 pp149 ff149) := envOK_of (by
  intro p hp
  simp only [List.mem_cons, List.not_mem_nil, or_false] at hp
  rcases hp with rfl
  · exact snd149)
theorem b166 (x : X166) (h : (tr166 pp149 ff149 x).U) : Holds (evFun TT (E166 pp149 ff149) Try.f166.ntmps (fun _ => none) (bodyOf Try.f166) Try.f166.results.toList P166 R166 x (fun r o => (r, o) = (tr166 pp149 ff149 x).W)) := by
  constructor; rw [e166]; exact VT.sound _ h rfl
set_option maxRecDepth 100000 in
theorem snd166 : Sound Try.prog 166 s166 := sound_h (fs := s166) tt_ok mixed ok166 Try.func166 rfl (by kernel_rfl) (ann := fun _ _ => none) fun x h => b166 x (h _ (List.mem_singleton.2 rfl))
end Go.Proofs.Ytmlolnaannoifaa

/- A function of the program as a plain function. Written by wip/gen/gen.py. -/
namespace Go.Proofs.Ytmlolnaannoifaa

/- 167 loop.example/g01193/spec.l02Two -/
abbrev P167 : List PK := [.val (.int .i64)]
abbrev R167 : List RK := [.one .bool]
abbrev X167 : Type := Int × Unit
abbrev W167 : Type := (Bool × Unit) × Unit
noncomputable def tr167 (p149 : X149 → List Prop) (f149 : X149 → W149) (x : X167) : VT W167 :=
  .pre (p149 (x.1, (5 : Int), (8 : Int), ())) (
  let t4 := f149 (x.1, (5 : Int), (8 : Int), ())
  .ret ((t4.1.1, ()), (())))
noncomputable def pp167 (x : X167) : List Prop := [(tr167 pp149 ff149 x).U]
noncomputable def ff167 (x : X167) : W167 := (tr167 pp149 ff149 x).W
noncomputable def s167 : FSpec := ⟨P167, R167, pp167, ff167⟩
def E167 (p149 : X149 → List Prop) (f149 : X149 → W149) : Env := fun f => get1 [(149, ⟨P149, R149, p149, f149⟩)] f
set_option maxRecDepth 100000 in
theorem e167 (p149 : X149 → List Prop) (f149 : X149 → W149) (x : X167) (Q : RsT R167 → OsT P167 → Prop) : evFun TT (E167 p149 f149) Try.f167.ntmps (fun _ => none) (bodyOf Try.f167) Try.f167.results.toList P167 R167 x Q = (tr167 p149 f149 x).V (fun w => Q w.1 w.2) := by kernel_rfl
set_option maxRecDepth 100000 in
theorem ok167 : EnvOK Try.prog (E167 pp149 ff149) := envOK_of (by
  intro p hp
  simp only [List.mem_cons, List.not_mem_nil, or_false] at hp
  rcases hp with rfl
  · exact snd149)
theorem b167 (x : X167) (h : (tr167 pp149 ff149 x).U) : Holds (evFun TT (E167 pp149 ff149) Try.f167.ntmps (fun _ => none) (bodyOf Try.f167) Try.f167.results.toList P167 R167 x (fun r o => (r, o) = (tr167 pp149 ff149 x).W)) := by
  constructor; rw [e167]; exact VT.sound _ h rfl
set_option maxRecDepth 100000 in
theorem snd167 : Sound Try.prog 167 s167 := sound_h (fs := s167) tt_ok mixed ok167 Try.func167 rfl (by kernel_rfl) (ann := fun _ _ => none) fun x h => b167 x (h _ (List.mem_singleton.2 rfl))
end Go.Proofs.Ytmlolnaannoifaa

/- A function of the program as a plain function. Written by wip/gen/gen.py. -/
namespace Go.Proofs.Ytmlolnaannoifaa

/- 174 loop.example/g01193/spec.l02Put -/
abbrev P174 : List PK := [.val (.own (.pair (.int .i64) (.pair (.int .i64) (.pair (.int .i64) (.pair (.sl (.flt .f32)) .unit))))), .ro (.pair (.sl (.pair (.int .i64) (.pair (.int .i64) (.pair (.int .i64) (.pair (.sl (.flt .f32)) .unit))))) .unit), .val (.int .i64)]
abbrev R174 : List RK := [.one (.own (.pair (.int .i64) (.pair (.int .i64) (.pair (.int .i64) (.pair (.sl (.flt .f32)) .unit)))))]
abbrev X174 : Type := (List (Int × Int × Int × List Nat × Unit)) × ((List (Int × Int × Int × List Nat × Unit)) × Unit) × Int × Unit
abbrev W174 : Type := ((List (Int × Int × Int × List Nat × Unit)) × Unit) × Unit
abbrev K174_r2 : Type := Int × (List (Int × Int × Int × List Nat × Unit)) × Unit
noncomputable def lp174_1 (p166 : X166 → List Prop) (f166 : X166 → W166) (p167 : X167 → List Prop) (f167 : X167 → W167) (x : X174) (k : K174_r2) : VT (K174_r2 ⊕ W174) :=
  let t14 := (x.2.1.1.length : Int)
  let t15 := decide (k.1 < t14)
  .ite t15 (
    .step (0 ≤ k.1) (
    .step (k.1 < x.2.1.1.length) (
    let t23 := x.2.1.1.getD k.1.toNat ((0, 0, 0, [], ()) : (Int × Int × Int × List Nat × Unit))
    .step (t23.2.2.2.1.length ≤ 1099511627776) (
    .pre (p166 (t23.1, ())) (
    let t32 := f166 (t23.1, ())
    let t33 := !t32.1.1
    .ite t33 (
      let t37 := IntKind.wrap .i64 (t23.2.1 + x.2.2.1)
      .pre (p167 (t23.1, ())) (
      let t41 := f167 (t23.1, ())
      .ite t41.1.1 (
        let t45 := IntKind.wrap .i64 (t23.2.2.1 + x.2.2.1)
        .step (t23.2.2.2.1.length = t23.2.2.2.1.length) (
        let t49 := [(t23.1, t37, t45, t23.2.2.2.1, ())]
        .step (k.2.1.length = k.2.1.length) (
        .step (k.2.1.length + t49.length ≤ 1099511627776) (
        let t50 := k.2.1 ++ t49
        let t17 := IntKind.wrap .i64 (k.1 + (1 : Int))
        .next (t17, t50, ()) (fun y q => (t50.length = y.2.1.length) ∧ (x.2.1 = x.2.1) ∧ (x.2.2.1 = x.2.2.1) ∧ (t17 = y.1) ∧ (t50 = y.2.1) ∧ q) (fun _ h => ⟨rfl, rfl, rfl, rfl, rfl, h⟩))))
      ) (
        .step (t23.2.2.2.1.length = t23.2.2.2.1.length) (
        let t49_1 := [(t23.1, t37, t23.2.2.1, t23.2.2.2.1, ())]
        .step (k.2.1.length = k.2.1.length) (
        .step (k.2.1.length + t49_1.length ≤ 1099511627776) (
        let t50_1 := k.2.1 ++ t49_1
        let t17_1 := IntKind.wrap .i64 (k.1 + (1 : Int))
        .next (t17_1, t50_1, ()) (fun y q => (t50_1.length = y.2.1.length) ∧ (x.2.1 = x.2.1) ∧ (x.2.2.1 = x.2.2.1) ∧ (t17_1 = y.1) ∧ (t50_1 = y.2.1) ∧ q) (fun _ h => ⟨rfl, rfl, rfl, rfl, rfl, h⟩))))
      ))
    ) (
      .pre (p167 (t23.1, ())) (
      let t41_1 := f167 (t23.1, ())
      .ite t41_1.1.1 (
        let t45_1 := IntKind.wrap .i64 (t23.2.2.1 + x.2.2.1)
        .step (t23.2.2.2.1.length = t23.2.2.2.1.length) (
        let t49_2 := [(t23.1, t23.2.1, t45_1, t23.2.2.2.1, ())]
        .step (k.2.1.length = k.2.1.length) (
        .step (k.2.1.length + t49_2.length ≤ 1099511627776) (
        let t50_2 := k.2.1 ++ t49_2
        let t17_2 := IntKind.wrap .i64 (k.1 + (1 : Int))
        .next (t17_2, t50_2, ()) (fun y q => (t50_2.length = y.2.1.length) ∧ (x.2.1 = x.2.1) ∧ (x.2.2.1 = x.2.2.1) ∧ (t17_2 = y.1) ∧ (t50_2 = y.2.1) ∧ q) (fun _ h => ⟨rfl, rfl, rfl, rfl, rfl, h⟩))))
      ) (
        .step (t23.2.2.2.1.length = t23.2.2.2.1.length) (
        let t49_3 := [(t23.1, t23.2.1, t23.2.2.1, t23.2.2.2.1, ())]
        .step (k.2.1.length = k.2.1.length) (
        .step (k.2.1.length + t49_3.length ≤ 1099511627776) (
        let t50_3 := k.2.1 ++ t49_3
        let t17_3 := IntKind.wrap .i64 (k.1 + (1 : Int))
        .next (t17_3, t50_3, ()) (fun y q => (t50_3.length = y.2.1.length) ∧ (x.2.1 = x.2.1) ∧ (x.2.2.1 = x.2.2.1) ∧ (t17_3 = y.1) ∧ (t50_3 = y.2.1) ∧ q) (fun _ h => ⟨rfl, rfl, rfl, rfl, rfl, h⟩))))
      ))
    )))))
  ) (
    .exit (
    .step (k.2.1.length = k.2.1.length) <|
    .ret ((k.2.1, ()), (())))
  )
def an174 (x : X174) : Nat → Option Ann := fun i =>
  bif Nat.beq i 2 then some ⟨K174_r2, fun k => ⟨[(0, .one (.osl (.pair (.int .i64) (.pair (.int .i64) (.pair (.int .i64) (.pair (.sl (.flt .f32)) .unit)))) 0 k.2.1.length)), (1, .one (.cptr (.pair (.sl (.pair (.int .i64) (.pair (.int .i64) (.pair (.int .i64) (.pair (.sl (.flt .f32)) .unit))))) .unit) x.2.1)), (2, .one (.d (.int .i64) x.2.2.1)), (7, .one (.d (.int .i64) k.1))], [(0, .vec (.pair (.int .i64) (.pair (.int .i64) (.pair (.int .i64) (.pair (.sl (.flt .f32)) .unit)))) k.2.1)]⟩, []⟩ else
  none
noncomputable def tr174 (p166 : X166 → List Prop) (f166 : X166 → W166) (p167 : X167 → List Prop) (f167 : X167 → W167) (x : X174) : VT W174 :=
  .loop ((0 : Int), x.1, ()) (fun y q => (x.1.length = y.2.1.length) ∧ (x.2.1 = x.2.1) ∧ (x.2.2.1 = x.2.2.1) ∧ ((0 : Int) = y.1) ∧ (x.1 = y.2.1) ∧ q) (fun _ h => ⟨rfl, rfl, rfl, rfl, rfl, h⟩) (([], ()), (())) (lp174_1 p166 f166 p167 f167 x)
noncomputable def pp174 (x : X174) : List Prop := [(tr174 pp166 ff166 pp167 ff167 x).U]
noncomputable def ff174 (x : X174) : W174 := (tr174 pp166 ff166 pp167 ff167 x).W
noncomputable def s174 : FSpec := ⟨P174, R174, pp174, ff174⟩
def E174 (p166 : X166 → List Prop) (f166 : X166 → W166) (p167 : X167 → List Prop) (f167 : X167 → W167) : Env := fun f => get1 [(166, ⟨P166, R166, p166, f166⟩), (167, ⟨P167, R167, p167, f167⟩)] f
set_option maxRecDepth 100000 in
theorem e174 (p166 : X166 → List Prop) (f166 : X166 → W166) (p167 : X167 → List Prop) (f167 : X167 → W167) (x : X174) (Q : RsT R174 → OsT P174 → Prop) : evFun TT (E174 p166 f166 p167 f167) Try.f174.ntmps (an174 x) (bodyOf Try.f174) Try.f174.results.toList P174 R174 x Q = (tr174 p166 f166 p167 f167 x).V (fun w => Q w.1 w.2) := by kernel_rfl
set_option maxRecDepth 100000 in
theorem ok174 : EnvOK Try.prog (E174 pp166 ff166 pp167 ff167) := envOK_of (by
  intro p hp
  simp only [List.mem_cons, List.not_mem_nil, or_false] at hp
  rcases hp with rfl | rfl
  · exact snd166
  · exact snd167)
theorem b174 (x : X174) (h : (tr174 pp166 ff166 pp167 ff167 x).U) : Holds (evFun TT (E174 pp166 ff166 pp167 ff167) Try.f174.ntmps (an174 x) (bodyOf Try.f174) Try.f174.results.toList P174 R174 x (fun r o => (r, o) = (tr174 pp166 ff166 pp167 ff167 x).W)) := by
  constructor; rw [e174]; exact VT.sound _ h rfl
set_option maxRecDepth 100000 in
theorem snd174 : Sound Try.prog 174 s174 := sound_h (fs := s174) tt_ok mixed ok174 Try.func174 rfl (by kernel_rfl) (ann := an174) fun x h => b174 x (h _ (List.mem_singleton.2 rfl))
end Go.Proofs.Ytmlolnaannoifaa

/- A function of the program as a plain function. Written by wip/gen/gen.py. -/
namespace Go.Proofs.Ytmlolnaannoifaa

/- 133 loop.example/g01193/spec.l02Own -/
abbrev P133 : List PK := [.ro (.pair (.sl (.pair (.int .i64) (.pair (.int .i64) (.pair (.int .i64) (.pair (.sl (.flt .f32)) .unit))))) .unit)]
abbrev R133 : List RK := [.st (.pair (.sl (.pair (.int .i64) (.pair (.int .i64) (.pair (.int .i64) (.pair (.sl (.flt .f32)) .unit))))) .unit)]
abbrev X133 : Type := ((List (Int × Int × Int × List Nat × Unit)) × Unit) × Unit
abbrev W133 : Type := (((List (Int × Int × Int × List Nat × Unit)) × Unit) × Unit) × Unit
noncomputable def tr133 (p174 : X174 → List Prop) (f174 : X174 → W174) (x : X133) : VT W133 :=
  .pre (p174 ([], x.1, (0 : Int), ())) (
  let t5 := f174 ([], x.1, (0 : Int), ())
  .step (t5.1.1.length = t5.1.1.length) <|
  .ret (((t5.1.1, ()), ()), (())))
noncomputable def pp133 (x : X133) : List Prop := [(tr133 pp174 ff174 x).U]
noncomputable def ff133 (x : X133) : W133 := (tr133 pp174 ff174 x).W
noncomputable def s133 : FSpec := ⟨P133, R133, pp133, ff133⟩
def E133 (p174 : X174 → List Prop) (f174 : X174 → W174) : Env := fun f => get1 [(174, ⟨P174, R174, p174, f174⟩)] f
set_option maxRecDepth 100000 in
theorem e133 (p174 : X174 → List Prop) (f174 : X174 → W174) (x : X133) (Q : RsT R133 → OsT P133 → Prop) : evFun TT (E133 p174 f174) Try.f133.ntmps (fun _ => none) (bodyOf Try.f133) Try.f133.results.toList P133 R133 x Q = (tr133 p174 f174 x).V (fun w => Q w.1 w.2) := by kernel_rfl
set_option maxRecDepth 100000 in
theorem ok133 : EnvOK Try.prog (E133 pp174 ff174) := envOK_of (by
  intro p hp
  simp only [List.mem_cons, List.not_mem_nil, or_false] at hp
  rcases hp with rfl
  · exact snd174)
theorem b133 (x : X133) (h : (tr133 pp174 ff174 x).U) : Holds (evFun TT (E133 pp174 ff174) Try.f133.ntmps (fun _ => none) (bodyOf Try.f133) Try.f133.results.toList P133 R133 x (fun r o => (r, o) = (tr133 pp174 ff174 x).W)) := by
  constructor; rw [e133]; exact VT.sound _ h rfl
set_option maxRecDepth 100000 in
theorem snd133 : Sound Try.prog 133 s133 := sound_h (fs := s133) tt_ok mixed ok133 Try.func133 rfl (by kernel_rfl) (ann := fun _ _ => none) fun x h => b133 x (h _ (List.mem_singleton.2 rfl))
end Go.Proofs.Ytmlolnaannoifaa

/- A function of the program as a plain function. Written by wip/gen/gen.py. -/
namespace Go.Proofs.Ytmlolnaannoifaa

/- 101 loop.example/g01193/spec.l10Own -/
abbrev P101 : List PK := [.ro (.pair .str (.pair (.sl (.pair (.int .i64) (.pair (.int .i64) (.pair (.int .i64) (.pair (.sl (.flt .f32)) .unit))))) (.pair (.sl (.pair (.int .i64) (.pair (.flt .f32) (.pair (.flt .f32) (.pair (.flt .f32) .unit))))) .unit)))]
abbrev R101 : List RK := [.st (.pair .str (.pair (.sl (.pair (.int .i64) (.pair (.int .i64) (.pair (.int .i64) (.pair (.sl (.flt .f32)) .unit))))) (.pair (.sl (.pair (.int .i64) (.pair (.flt .f32) (.pair (.flt .f32) (.pair (.flt .f32) .unit))))) .unit)))]
abbrev X101 : Type := (ByteArray × (List (Int × Int × Int × List Nat × Unit)) × (List (Int × Nat × Nat × Nat × Unit)) × Unit) × Unit
abbrev W101 : Type := ((ByteArray × (List (Int × Int × Int × List Nat × Unit)) × (List (Int × Nat × Nat × Nat × Unit)) × Unit) × Unit) × Unit
noncomputable def tr101 (p133 : X133 → List Prop) (f133 : X133 → W133) (x : X101) : VT W101 :=
  .pre (p133 ((x.1.2.1, ()), ())) (
  let t10 := f133 ((x.1.2.1, ()), ())
  .step (x.1.2.2.1.length ≤ 1099511627776) (
  .step (x.1.2.2.1.length = x.1.2.2.1.length) <|
  .ret (((x.1.1, t10.1.1.1, x.1.2.2.1, ()), ()), (()))))
noncomputable def pp101 (x : X101) : List Prop := [(tr101 pp133 ff133 x).U]
noncomputable def ff101 (x : X101) : W101 := (tr101 pp133 ff133 x).W
noncomputable def s101 : FSpec := ⟨P101, R101, pp101, ff101⟩
def E101 (p133 : X133 → List Prop) (f133 : X133 → W133) : Env := fun f => get1 [(133, ⟨P133, R133, p133, f133⟩)] f
set_option maxRecDepth 100000 in
theorem e101 (p133 : X133 → List Prop) (f133 : X133 → W133) (x : X101) (Q : RsT R101 → OsT P101 → Prop) : evFun TT (E101 p133 f133) Try.f101.ntmps (fun _ => none) (bodyOf Try.f101) Try.f101.results.toList P101 R101 x Q = (tr101 p133 f133 x).V (fun w => Q w.1 w.2) := by kernel_rfl
set_option maxRecDepth 100000 in
theorem ok101 : EnvOK Try.prog (E101 pp133 ff133) := envOK_of (by
  intro p hp
  simp only [List.mem_cons, List.not_mem_nil, or_false] at hp
  rcases hp with rfl
  · exact snd133)
theorem b101 (x : X101) (h : (tr101 pp133 ff133 x).U) : Holds (evFun TT (E101 pp133 ff133) Try.f101.ntmps (fun _ => none) (bodyOf Try.f101) Try.f101.results.toList P101 R101 x (fun r o => (r, o) = (tr101 pp133 ff133 x).W)) := by
  constructor; rw [e101]; exact VT.sound _ h rfl
set_option maxRecDepth 100000 in
theorem snd101 : Sound Try.prog 101 s101 := sound_h (fs := s101) tt_ok mixed ok101 Try.func101 rfl (by kernel_rfl) (ann := fun _ _ => none) fun x h => b101 x (h _ (List.mem_singleton.2 rfl))
end Go.Proofs.Ytmlolnaannoifaa

/- A function of the program as a plain function. Written by wip/gen/gen.py. -/
namespace Go.Proofs.Ytmlolnaannoifaa

/- 59 loop.example/g01193/spec.l10Put -/
abbrev P59 : List PK := [.ro (.pair (.sl (.pair .str (.pair (.sl (.pair (.int .i64) (.pair (.int .i64) (.pair (.int .i64) (.pair (.sl (.flt .f32)) .unit))))) (.pair (.sl (.pair (.int .i64) (.pair (.flt .f32) (.pair (.flt .f32) (.pair (.flt .f32) .unit))))) .unit)))) .unit), .ro (.pair .str (.pair (.sl (.pair (.int .i64) (.pair (.int .i64) (.pair (.int .i64) (.pair (.sl (.flt .f32)) .unit))))) (.pair (.sl (.pair (.int .i64) (.pair (.flt .f32) (.pair (.flt .f32) (.pair (.flt .f32) .unit))))) .unit)))]
abbrev R59 : List RK := [.st (.pair (.own (.pair .str (.pair (.sl (.pair (.int .i64) (.pair (.int .i64) (.pair (.int .i64) (.pair (.sl (.flt .f32)) .unit))))) (.pair (.sl (.pair (.int .i64) (.pair (.flt .f32) (.pair (.flt .f32) (.pair (.flt .f32) .unit))))) .unit)))) .unit)]
abbrev X59 : Type := ((List (ByteArray × (List (Int × Int × Int × List Nat × Unit)) × (List (Int × Nat × Nat × Nat × Unit)) × Unit)) × Unit) × (ByteArray × (List (Int × Int × Int × List Nat × Unit)) × (List (Int × Nat × Nat × Nat × Unit)) × Unit) × Unit
abbrev W59 : Type := (((List (ByteArray × (List (Int × Int × Int × List Nat × Unit)) × (List (Int × Nat × Nat × Nat × Unit)) × Unit)) × Unit) × Unit) × Unit
abbrev K59_r4 : Type := Bool × Int × (List (ByteArray × (List (Int × Int × Int × List Nat × Unit)) × (List (Int × Nat × Nat × Nat × Unit)) × Unit)) × Unit
noncomputable def lp59_1 (p101 : X101 → List Prop) (f101 : X101 → W101) (x : X59) (k : K59_r4) : VT (K59_r4 ⊕ W59) :=
  let t16 := (x.1.1.length : Int)
  let t17 := decide (k.2.1 < t16)
  .ite t17 (
    .step (0 ≤ k.2.1) (
    .step (k.2.1 < x.1.1.length) (
    let t25 := x.1.1.getD k.2.1.toNat ((ByteArray.empty, [], [], ()) : (ByteArray × (List (Int × Int × Int × List Nat × Unit)) × (List (Int × Nat × Nat × Nat × Unit)) × Unit))
    let t27 := !k.1
    .ite t27 (
      let t37 := !slt' t25.1 x.2.1.1
      .ite t37 (
        .pre (p101 (x.2.1, ())) (
        let t42 := f101 (x.2.1, ())
        let t43 := [(t42.1.1.1, t42.1.1.2.1, t42.1.1.2.2.1, ())]
        .step (k.2.2.1.length = k.2.2.1.length) (
        .step (k.2.2.1.length + t43.length ≤ 1099511627776) (
        let t44 := k.2.2.1 ++ t43
        let t54 := !seq' t25.1 x.2.1.1
        .ite t54 (
          .pre (p101 (t25, ())) (
          let t58 := f101 (t25, ())
          let t59 := [(t58.1.1.1, t58.1.1.2.1, t58.1.1.2.2.1, ())]
          .step (t44.length = t44.length) (
          .step (t44.length + t59.length ≤ 1099511627776) (
          let t60 := t44 ++ t59
          let t19 := IntKind.wrap .i64 (k.2.1 + (1 : Int))
          .next (true, t19, t60, ()) (fun y q => (x.1 = x.1) ∧ (x.2.1 = x.2.1) ∧ True ∧ True ∧ (true = y.1) ∧ (t19 = y.2.1) ∧ (t60 = y.2.2.1) ∧ (True ∧ True) ∧ ((t60.length = y.2.2.1.length) ∧ True) ∧ q) (fun _ h => ⟨rfl, rfl, trivial, trivial, rfl, rfl, rfl, ⟨trivial, trivial⟩, ⟨rfl, trivial⟩, h⟩))))
        ) (
          let t19_1 := IntKind.wrap .i64 (k.2.1 + (1 : Int))
          .next (true, t19_1, t44, ()) (fun y q => (x.1 = x.1) ∧ (x.2.1 = x.2.1) ∧ True ∧ True ∧ (true = y.1) ∧ (t19_1 = y.2.1) ∧ (t44 = y.2.2.1) ∧ (True ∧ True) ∧ ((t44.length = y.2.2.1.length) ∧ True) ∧ q) (fun _ h => ⟨rfl, rfl, trivial, trivial, rfl, rfl, rfl, ⟨trivial, trivial⟩, ⟨rfl, trivial⟩, h⟩)
        ))))
      ) (
        let t54_1 := !seq' t25.1 x.2.1.1
        .ite t54_1 (
          .pre (p101 (t25, ())) (
          let t58_1 := f101 (t25, ())
          let t59_1 := [(t58_1.1.1.1, t58_1.1.1.2.1, t58_1.1.1.2.2.1, ())]
          .step (k.2.2.1.length = k.2.2.1.length) (
          .step (k.2.2.1.length + t59_1.length ≤ 1099511627776) (
          let t60_1 := k.2.2.1 ++ t59_1
          let t19_2 := IntKind.wrap .i64 (k.2.1 + (1 : Int))
          .next (k.1, t19_2, t60_1, ()) (fun y q => (x.1 = x.1) ∧ (x.2.1 = x.2.1) ∧ True ∧ True ∧ (k.1 = y.1) ∧ (t19_2 = y.2.1) ∧ (t60_1 = y.2.2.1) ∧ (True ∧ True) ∧ ((t60_1.length = y.2.2.1.length) ∧ True) ∧ q) (fun _ h => ⟨rfl, rfl, trivial, trivial, rfl, rfl, rfl, ⟨trivial, trivial⟩, ⟨rfl, trivial⟩, h⟩))))
        ) (
          let t19_3 := IntKind.wrap .i64 (k.2.1 + (1 : Int))
          .next (k.1, t19_3, k.2.2.1, ()) (fun y q => (x.1 = x.1) ∧ (x.2.1 = x.2.1) ∧ True ∧ True ∧ (k.1 = y.1) ∧ (t19_3 = y.2.1) ∧ (k.2.2.1 = y.2.2.1) ∧ (True ∧ True) ∧ ((k.2.2.1.length = y.2.2.1.length) ∧ True) ∧ q) (fun _ h => ⟨rfl, rfl, trivial, trivial, rfl, rfl, rfl, ⟨trivial, trivial⟩, ⟨rfl, trivial⟩, h⟩)
        )
      )
    ) (
      let t54_2 := !seq' t25.1 x.2.1.1
      .ite t54_2 (
        .pre (p101 (t25, ())) (
        let t58_2 := f101 (t25, ())
        let t59_2 := [(t58_2.1.1.1, t58_2.1.1.2.1, t58_2.1.1.2.2.1, ())]
        .step (k.2.2.1.length = k.2.2.1.length) (
        .step (k.2.2.1.length + t59_2.length ≤ 1099511627776) (
        let t60_2 := k.2.2.1 ++ t59_2
        let t19_4 := IntKind.wrap .i64 (k.2.1 + (1 : Int))
        .next (k.1, t19_4, t60_2, ()) (fun y q => (x.1 = x.1) ∧ (x.2.1 = x.2.1) ∧ True ∧ True ∧ (k.1 = y.1) ∧ (t19_4 = y.2.1) ∧ (t60_2 = y.2.2.1) ∧ (True ∧ True) ∧ ((t60_2.length = y.2.2.1.length) ∧ True) ∧ q) (fun _ h => ⟨rfl, rfl, trivial, trivial, rfl, rfl, rfl, ⟨trivial, trivial⟩, ⟨rfl, trivial⟩, h⟩))))
      ) (
        let t19_5 := IntKind.wrap .i64 (k.2.1 + (1 : Int))
        .next (k.1, t19_5, k.2.2.1, ()) (fun y q => (x.1 = x.1) ∧ (x.2.1 = x.2.1) ∧ True ∧ True ∧ (k.1 = y.1) ∧ (t19_5 = y.2.1) ∧ (k.2.2.1 = y.2.2.1) ∧ (True ∧ True) ∧ ((k.2.2.1.length = y.2.2.1.length) ∧ True) ∧ q) (fun _ h => ⟨rfl, rfl, trivial, trivial, rfl, rfl, rfl, ⟨trivial, trivial⟩, ⟨rfl, trivial⟩, h⟩)
      )
    )))
  ) (
    .exit (
    let t63 := !k.1
    .ite t63 (
      .pre (p101 (x.2.1, ())) (
      let t67 := f101 (x.2.1, ())
      let t68 := [(t67.1.1.1, t67.1.1.2.1, t67.1.1.2.2.1, ())]
      .step (k.2.2.1.length = k.2.2.1.length) (
      .step (k.2.2.1.length + t68.length ≤ 1099511627776) (
      let t69 := k.2.2.1 ++ t68
      .step (t69.length = t69.length) <|
      .ret (((t69, ()), ()), (())))))
    ) (
      .step (k.2.2.1.length = k.2.2.1.length) <|
      .ret (((k.2.2.1, ()), ()), (()))
    ))
  )
def an59 (x : X59) : Nat → Option Ann := fun i =>
  bif Nat.beq i 4 then some ⟨K59_r4, fun k => ⟨[(0, .one (.cptr (.pair (.sl (.pair .str (.pair (.sl (.pair (.int .i64) (.pair (.int .i64) (.pair (.int .i64) (.pair (.sl (.flt .f32)) .unit))))) (.pair (.sl (.pair (.int .i64) (.pair (.flt .f32) (.pair (.flt .f32) (.pair (.flt .f32) .unit))))) .unit)))) .unit) x.1)), (1, .one (.cptr (.pair .str (.pair (.sl (.pair (.int .i64) (.pair (.int .i64) (.pair (.int .i64) (.pair (.sl (.flt .f32)) .unit))))) (.pair (.sl (.pair (.int .i64) (.pair (.flt .f32) (.pair (.flt .f32) (.pair (.flt .f32) .unit))))) .unit))) x.2.1)), (4, .one (.ptr 65616 0)), (5, .one (.ptr 65632 0)), (6, .one (.d .bool k.1)), (7, .one (.d (.int .i64) k.2.1))], [(32768, .vec (.pair .str (.pair (.sl (.pair (.int .i64) (.pair (.int .i64) (.pair (.int .i64) (.pair (.sl (.flt .f32)) .unit))))) (.pair (.sl (.pair (.int .i64) (.pair (.flt .f32) (.pair (.flt .f32) (.pair (.flt .f32) .unit))))) .unit))) k.2.2.1), (65616, .box [.nilsl]), (65632, .box [(.osl (.pair .str (.pair (.sl (.pair (.int .i64) (.pair (.int .i64) (.pair (.int .i64) (.pair (.sl (.flt .f32)) .unit))))) (.pair (.sl (.pair (.int .i64) (.pair (.flt .f32) (.pair (.flt .f32) (.pair (.flt .f32) .unit))))) .unit))) 32768 k.2.2.1.length)])]⟩, [.cell 65632 0 (.pair .str (.pair (.sl (.pair (.int .i64) (.pair (.int .i64) (.pair (.int .i64) (.pair (.sl (.flt .f32)) .unit))))) (.pair (.sl (.pair (.int .i64) (.pair (.flt .f32) (.pair (.flt .f32) (.pair (.flt .f32) .unit))))) .unit))) 32768]⟩ else
  none
noncomputable def tr59 (p101 : X101 → List Prop) (f101 : X101 → W101) (x : X59) : VT W59 :=
  .loop (false, (0 : Int), [], ()) (fun y q => (x.1 = x.1) ∧ (x.2.1 = x.2.1) ∧ True ∧ True ∧ (false = y.1) ∧ ((0 : Int) = y.2.1) ∧ ([] = y.2.2.1) ∧ (True ∧ True) ∧ ((0 = y.2.2.1.length) ∧ True) ∧ q) (fun _ h => ⟨rfl, rfl, trivial, trivial, rfl, rfl, rfl, ⟨trivial, trivial⟩, ⟨rfl, trivial⟩, h⟩) ((([], ()), ()), (())) (lp59_1 p101 f101 x)
noncomputable def pp59 (x : X59) : List Prop := [(tr59 pp101 ff101 x).U]
noncomputable def ff59 (x : X59) : W59 := (tr59 pp101 ff101 x).W
noncomputable def s59 : FSpec := ⟨P59, R59, pp59, ff59⟩
def E59 (p101 : X101 → List Prop) (f101 : X101 → W101) : Env := fun f => get1 [(101, ⟨P101, R101, p101, f101⟩)] f
set_option maxRecDepth 100000 in
theorem e59 (p101 : X101 → List Prop) (f101 : X101 → W101) (x : X59) (Q : RsT R59 → OsT P59 → Prop) : evFun TT (E59 p101 f101) Try.f59.ntmps (an59 x) (bodyOf Try.f59) Try.f59.results.toList P59 R59 x Q = (tr59 p101 f101 x).V (fun w => Q w.1 w.2) := by kernel_rfl
set_option maxRecDepth 100000 in
theorem ok59 : EnvOK Try.prog (E59 pp101 ff101) := envOK_of (by
  intro p hp
  simp only [List.mem_cons, List.not_mem_nil, or_false] at hp
  rcases hp with rfl
  · exact snd101)
theorem b59 (x : X59) (h : (tr59 pp101 ff101 x).U) : Holds (evFun TT (E59 pp101 ff101) Try.f59.ntmps (an59 x) (bodyOf Try.f59) Try.f59.results.toList P59 R59 x (fun r o => (r, o) = (tr59 pp101 ff101 x).W)) := by
  constructor; rw [e59]; exact VT.sound _ h rfl
set_option maxRecDepth 100000 in
theorem snd59 : Sound Try.prog 59 s59 := sound_h (fs := s59) tt_ok mixed ok59 Try.func59 rfl (by kernel_rfl) (ann := an59) fun x h => b59 x (h _ (List.mem_singleton.2 rfl))
end Go.Proofs.Ytmlolnaannoifaa

/- A function of the program as a plain function. Written by wip/gen/gen.py. -/
namespace Go.Proofs.Ytmlolnaannoifaa

/- 28 loop.example/g01193/spec.l10DrawOk -/
abbrev P28 : List PK := [.box (.pair (.sl (.int .u8)) (.pair (.int .i64) (.pair (.int .u64) .unit)))]
abbrev R28 : List RK := [.st (.pair (.sl (.pair .str (.pair (.sl (.pair (.int .i64) (.pair (.int .i64) (.pair (.int .i64) (.pair (.sl (.flt .f32)) .unit))))) (.pair (.sl (.pair (.int .i64) (.pair (.flt .f32) (.pair (.flt .f32) (.pair (.flt .f32) .unit))))) .unit)))) .unit)]
abbrev X28 : Type := (List Int × Int × Int × Unit) × Unit
abbrev W28 : Type := (((List (ByteArray × (List (Int × Int × Int × List Nat × Unit)) × (List (Int × Nat × Nat × Nat × Unit)) × Unit)) × Unit) × Unit) × ((List Int × Int × Int × Unit) × Unit)
abbrev K28_r3 : Type := Int × List Int × Int × Int × (List (ByteArray × (List (Int × Int × Int × List Nat × Unit)) × (List (Int × Nat × Nat × Nat × Unit)) × Unit)) × Unit
noncomputable def lp28_1 (p46 : X46 → List Prop) (f46 : X46 → W46) (p58 : X58 → List Prop) (f58 : X58 → W58) (p59 : X59 → List Prop) (f59 : X59 → W59) (x : X28) (k : K28_r3) : VT (K28_r3 ⊕ W28) :=
  let t11 := decide ((0 : Int) < k.1)
  .ite t11 (
    .pre (p58 ((k.2.1, k.2.2.1, k.2.2.2.1, ()), ())) (
    let t15 := f58 ((k.2.1, k.2.2.1, k.2.2.2.1, ()), ())
    .step (k.2.2.2.2.1.length = k.2.2.2.2.1.length) (
    .pre (p59 ((k.2.2.2.2.1, ()), (t15.1.1.1, t15.1.1.2.1, t15.1.1.2.2.1, ()), ())) (
    let t16 := f59 ((k.2.2.2.2.1, ()), (t15.1.1.1, t15.1.1.2.1, t15.1.1.2.2.1, ()), ())
    let t13 := IntKind.wrap .i64 (k.1 - (1 : Int))
    .next (t13, t15.2.1.1, t15.2.1.2.1, t15.2.1.2.2.1, t16.1.1.1, ()) (fun y q => True ∧ True ∧ True ∧ (t13 = y.1) ∧ ((t15.2.1.1 = y.2.1) ∧ (t15.2.1.2.1 = y.2.2.1) ∧ (t15.2.1.2.2.1 = y.2.2.2.1) ∧ True) ∧ (t16.1.1.1 = y.2.2.2.2.1) ∧ (True ∧ True) ∧ ((t16.1.1.1.length = y.2.2.2.2.1.length) ∧ True) ∧ q) (fun _ h => ⟨trivial, trivial, trivial, rfl, ⟨rfl, rfl, rfl, trivial⟩, rfl, ⟨trivial, trivial⟩, ⟨rfl, trivial⟩, h⟩))))
  ) (
    .exit (
    .step (k.2.2.2.2.1.length = k.2.2.2.2.1.length) <|
    .ret (((k.2.2.2.2.1, ()), ()), ((k.2.1, k.2.2.1, k.2.2.2.1, ()), ())))
  )
def an28 (x : X28) : Nat → Option Ann := fun i =>
  bif Nat.beq i 3 then some ⟨K28_r3, fun k => ⟨[(0, .one (.ptr 0 0)), (2, .one (.ptr 65584 0)), (3, .one (.ptr 65600 0)), (4, .one (.d (.int .i64) k.1))], [(0, .box [(.d (.sl (.int .u8)) k.2.1), (.d (.int .i64) k.2.2.1), (.d (.int .u64) k.2.2.2.1)]), (32768, .vec (.pair .str (.pair (.sl (.pair (.int .i64) (.pair (.int .i64) (.pair (.int .i64) (.pair (.sl (.flt .f32)) .unit))))) (.pair (.sl (.pair (.int .i64) (.pair (.flt .f32) (.pair (.flt .f32) (.pair (.flt .f32) .unit))))) .unit))) k.2.2.2.2.1), (65584, .box [.nilsl]), (65600, .box [(.osl (.pair .str (.pair (.sl (.pair (.int .i64) (.pair (.int .i64) (.pair (.int .i64) (.pair (.sl (.flt .f32)) .unit))))) (.pair (.sl (.pair (.int .i64) (.pair (.flt .f32) (.pair (.flt .f32) (.pair (.flt .f32) .unit))))) .unit))) 32768 k.2.2.2.2.1.length)])]⟩, [.cell 65600 0 (.pair .str (.pair (.sl (.pair (.int .i64) (.pair (.int .i64) (.pair (.int .i64) (.pair (.sl (.flt .f32)) .unit))))) (.pair (.sl (.pair (.int .i64) (.pair (.flt .f32) (.pair (.flt .f32) (.pair (.flt .f32) .unit))))) .unit))) 32768]⟩ else
  none
noncomputable def tr28 (p46 : X46 → List Prop) (f46 : X46 → W46) (p58 : X58 → List Prop) (f58 : X58 → W58) (p59 : X59 → List Prop) (f59 : X59 → W59) (x : X28) : VT W28 :=
  .pre (p46 ((x.1.1, x.1.2.1, x.1.2.2.1, ()), (4 : Int), ())) (
  let t9 := f46 ((x.1.1, x.1.2.1, x.1.2.2.1, ()), (4 : Int), ())
  .loop (t9.1.1, t9.2.1.1, t9.2.1.2.1, t9.2.1.2.2.1, [], ()) (fun y q => True ∧ True ∧ True ∧ (t9.1.1 = y.1) ∧ ((t9.2.1.1 = y.2.1) ∧ (t9.2.1.2.1 = y.2.2.1) ∧ (t9.2.1.2.2.1 = y.2.2.2.1) ∧ True) ∧ ([] = y.2.2.2.2.1) ∧ (True ∧ True) ∧ ((0 = y.2.2.2.2.1.length) ∧ True) ∧ q) (fun _ h => ⟨trivial, trivial, trivial, rfl, ⟨rfl, rfl, rfl, trivial⟩, rfl, ⟨trivial, trivial⟩, ⟨rfl, trivial⟩, h⟩) ((([], ()), ()), (([], 0, 0, ()), ())) (lp28_1 p46 f46 p58 f58 p59 f59 x))
noncomputable def pp28 (x : X28) : List Prop := [(tr28 pp46 ff46 pp58 ff58 pp59 ff59 x).U]
noncomputable def ff28 (x : X28) : W28 := (tr28 pp46 ff46 pp58 ff58 pp59 ff59 x).W
noncomputable def s28 : FSpec := ⟨P28, R28, pp28, ff28⟩
def E28 (p46 : X46 → List Prop) (f46 : X46 → W46) (p58 : X58 → List Prop) (f58 : X58 → W58) (p59 : X59 → List Prop) (f59 : X59 → W59) : Env := fun f => get1 [(46, ⟨P46, R46, p46, f46⟩), (58, ⟨P58, R58, p58, f58⟩), (59, ⟨P59, R59, p59, f59⟩)] f
set_option maxRecDepth 100000 in
theorem e28 (p46 : X46 → List Prop) (f46 : X46 → W46) (p58 : X58 → List Prop) (f58 : X58 → W58) (p59 : X59 → List Prop) (f59 : X59 → W59) (x : X28) (Q : RsT R28 → OsT P28 → Prop) : evFun TT (E28 p46 f46 p58 f58 p59 f59) Try.f28.ntmps (an28 x) (bodyOf Try.f28) Try.f28.results.toList P28 R28 x Q = (tr28 p46 f46 p58 f58 p59 f59 x).V (fun w => Q w.1 w.2) := by kernel_rfl
set_option maxRecDepth 100000 in
theorem ok28 : EnvOK Try.prog (E28 pp46 ff46 pp58 ff58 pp59 ff59) := envOK_of (by
  intro p hp
  simp only [List.mem_cons, List.not_mem_nil, or_false] at hp
  rcases hp with rfl | rfl | rfl
  · exact snd46
  · exact snd58
  · exact snd59)
theorem b28 (x : X28) (h : (tr28 pp46 ff46 pp58 ff58 pp59 ff59 x).U) : Holds (evFun TT (E28 pp46 ff46 pp58 ff58 pp59 ff59) Try.f28.ntmps (an28 x) (bodyOf Try.f28) Try.f28.results.toList P28 R28 x (fun r o => (r, o) = (tr28 pp46 ff46 pp58 ff58 pp59 ff59 x).W)) := by
  constructor; rw [e28]; exact VT.sound _ h rfl
set_option maxRecDepth 100000 in
theorem snd28 : Sound Try.prog 28 s28 := sound_h (fs := s28) tt_ok mixed ok28 Try.func28 rfl (by kernel_rfl) (ann := an28) fun x h => b28 x (h _ (List.mem_singleton.2 rfl))
end Go.Proofs.Ytmlolnaannoifaa

/- A function of the program as a plain function. Written by wip/gen/gen.py. -/
namespace Go.Proofs.Ytmlolnaannoifaa

/- 7 loop.example/g01193/spec.R8Scene -/
abbrev P7 : List PK := [.val (.sl (.int .u8))]
abbrev R7 : List RK := [.st (.pair (.sl (.pair .str (.pair (.sl (.pair (.int .i64) (.pair (.int .i64) (.pair (.int .i64) (.pair (.sl (.flt .f32)) .unit))))) (.pair (.sl (.pair (.int .i64) (.pair (.flt .f32) (.pair (.flt .f32) (.pair (.flt .f32) .unit))))) .unit)))) .unit)]
abbrev X7 : Type := List Int × Unit
abbrev W7 : Type := (((List (ByteArray × (List (Int × Int × Int × List Nat × Unit)) × (List (Int × Nat × Nat × Nat × Unit)) × Unit)) × Unit) × Unit) × Unit
noncomputable def tr7 (p27 : X27 → List Prop) (f27 : X27 → W27) (p28 : X28 → List Prop) (f28 : X28 → W28) (x : X7) : VT W7 :=
  .pre (p27 (x.1, ())) (
  let t5 := f27 (x.1, ())
  .pre (p28 ((t5.1.1.1, t5.1.1.2.1, t5.1.1.2.2.1, ()), ())) (
  let t7 := f28 ((t5.1.1.1, t5.1.1.2.1, t5.1.1.2.2.1, ()), ())
  .ret (((t7.1.1.1, ()), ()), (()))))
noncomputable def pp7 (x : X7) : List Prop := [(tr7 pp27 ff27 pp28 ff28 x).U]
noncomputable def ff7 (x : X7) : W7 := (tr7 pp27 ff27 pp28 ff28 x).W
noncomputable def s7 : FSpec := ⟨P7, R7, pp7, ff7⟩
def E7 (p27 : X27 → List Prop) (f27 : X27 → W27) (p28 : X28 → List Prop) (f28 : X28 → W28) : Env := fun f => get1 [(27, ⟨P27, R27, p27, f27⟩), (28, ⟨P28, R28, p28, f28⟩)] f
set_option maxRecDepth 100000 in
theorem e7 (p27 : X27 → List Prop) (f27 : X27 → W27) (p28 : X28 → List Prop) (f28 : X28 → W28) (x : X7) (Q : RsT R7 → OsT P7 → Prop) : evFun TT (E7 p27 f27 p28 f28) Try.f7.ntmps (fun _ => none) (bodyOf Try.f7) Try.f7.results.toList P7 R7 x Q = (tr7 p27 f27 p28 f28 x).V (fun w => Q w.1 w.2) := by kernel_rfl
set_option maxRecDepth 100000 in
theorem ok7 : EnvOK Try.prog (E7 pp27 ff27 pp28 ff28) := envOK_of (by
  intro p hp
  simp only [List.mem_cons, List.not_mem_nil, or_false] at hp
  rcases hp with rfl | rfl
  · exact snd27
  · exact snd28)
theorem b7 (x : X7) (h : (tr7 pp27 ff27 pp28 ff28 x).U) : Holds (evFun TT (E7 pp27 ff27 pp28 ff28) Try.f7.ntmps (fun _ => none) (bodyOf Try.f7) Try.f7.results.toList P7 R7 x (fun r o => (r, o) = (tr7 pp27 ff27 pp28 ff28 x).W)) := by
  constructor; rw [e7]; exact VT.sound _ h rfl
set_option maxRecDepth 100000 in
theorem snd7 : Sound Try.prog 7 s7 := sound_h (fs := s7) tt_ok mixed ok7 Try.func7 rfl (by kernel_rfl) (ann := fun _ _ => none) fun x h => b7 x (h _ (List.mem_singleton.2 rfl))
end Go.Proofs.Ytmlolnaannoifaa

/- A function of the program as a plain function. Written by wip/gen/gen.py. -/
namespace Go.Proofs.Ytmlolnaannoifaa

/- 8 loop.example/g01193/laws.r8At -/
abbrev P8 : List PK := [.val (.sl (.int .u8)), .val (.int .i64), .val (.int .i64)]
abbrev R8 : List RK := [.one (.int .i64)]
abbrev X8 : Type := List Int × Int × Int × Unit
abbrev W8 : Type := (Int × Unit) × Unit
noncomputable def tr8 (x : X8) : VT W8 :=
  let t8 := decide (x.2.2.1 ≤ (1 : Int))
  .ite t8 (
    .ret (((0 : Int), ()), (()))
  ) (
    let t12 := (x.1.length : Int)
    let t13 := decide (t12 ≤ x.2.1)
    .ite t13 (
      .ret (((0 : Int), ()), (()))
    ) (
      .step (0 ≤ x.2.1) (
      .step (x.2.1 < x.1.length) (
      let t17 := x.1.getD x.2.1.toNat (0 : Int)
      let t19 := IntKind.wrap .i64 t17
      .step (x.2.2.1 ≠ 0) (
      let t21 := Int.tmod t19 x.2.2.1
      .ret ((t21, ()), (())))))
    )
  )
noncomputable def pp8 (x : X8) : List Prop := [(tr8 x).U]
noncomputable def ff8 (x : X8) : W8 := (tr8 x).W
noncomputable def s8 : FSpec := ⟨P8, R8, pp8, ff8⟩
def E8 : Env := fun f => get1 [] f
set_option maxRecDepth 100000 in
theorem e8 (x : X8) (Q : RsT R8 → OsT P8 → Prop) : evFun TT (E8) Try.f8.ntmps (fun _ => none) (bodyOf Try.f8) Try.f8.results.toList P8 R8 x Q = (tr8 x).V (fun w => Q w.1 w.2) := by kernel_rfl
set_option maxRecDepth 100000 in
theorem ok8 : EnvOK Try.prog E8 := envOK_of (by intro p hp; simp at hp)
theorem b8 (x : X8) (h : (tr8 x).U) : Holds (evFun TT (E8) Try.f8.ntmps (fun _ => none) (bodyOf Try.f8) Try.f8.results.toList P8 R8 x (fun r o => (r, o) = (tr8 x).W)) := by
  constructor; rw [e8]; exact VT.sound _ h rfl
set_option maxRecDepth 100000 in
theorem snd8 : Sound Try.prog 8 s8 := sound_h (fs := s8) tt_ok mixed ok8 Try.func8 rfl (by kernel_rfl) (ann := fun _ _ => none) fun x h => b8 x (h _ (List.mem_singleton.2 rfl))
end Go.Proofs.Ytmlolnaannoifaa

/- A function of the program as a plain function. Written by wip/gen/gen.py. -/
namespace Go.Proofs.Ytmlolnaannoifaa

/- 9 loop.example/g01193/spec.R8Point -/
abbrev P9 : List PK := [.val (.sl (.int .u8))]
abbrev R9 : List RK := [.st (.pair (.flt .f32) (.pair (.flt .f32) (.pair (.flt .f32) .unit)))]
abbrev X9 : Type := List Int × Unit
abbrev W9 : Type := ((Nat × Nat × Nat × Unit) × Unit) × Unit
noncomputable def tr9 (p27 : X27 → List Prop) (f27 : X27 → W27) (p29 : X29 → List Prop) (f29 : X29 → W29) (x : X9) : VT W9 :=
  .pre (p27 (x.1, ())) (
  let t6 := f27 (x.1, ())
  .pre (p29 ((t6.1.1.1, t6.1.1.2.1, t6.1.1.2.2.1, ()), ())) (
  let t8 := f29 ((t6.1.1.1, t6.1.1.2.1, t6.1.1.2.2.1, ()), ())
  .pre (p29 ((t8.2.1.1, t8.2.1.2.1, t8.2.1.2.2.1, ()), ())) (
  let t11 := f29 ((t8.2.1.1, t8.2.1.2.1, t8.2.1.2.2.1, ()), ())
  .pre (p29 ((t11.2.1.1, t11.2.1.2.1, t11.2.1.2.2.1, ()), ())) (
  let t14 := f29 ((t11.2.1.1, t11.2.1.2.1, t11.2.1.2.2.1, ()), ())
  .ret (((t8.1.1, t11.1.1, t14.1.1, ()), ()), (()))))))
noncomputable def pp9 (x : X9) : List Prop := [(tr9 pp27 ff27 pp29 ff29 x).U]
noncomputable def ff9 (x : X9) : W9 := (tr9 pp27 ff27 pp29 ff29 x).W
noncomputable def s9 : FSpec := ⟨P9, R9, pp9, ff9⟩
def E9 (p27 : X27 → List Prop) (f27 : X27 → W27) (p29 : X29 → List Prop) (f29 : X29 → W29) : Env := fun f => get1 [(27, ⟨P27, R27, p27, f27⟩), (29, ⟨P29, R29, p29, f29⟩)] f
set_option maxRecDepth 100000 in
theorem e9 (p27 : X27 → List Prop) (f27 : X27 → W27) (p29 : X29 → List Prop) (f29 : X29 → W29) (x : X9) (Q : RsT R9 → OsT P9 → Prop) : evFun TT (E9 p27 f27 p29 f29) Try.f9.ntmps (fun _ => none) (bodyOf Try.f9) Try.f9.results.toList P9 R9 x Q = (tr9 p27 f27 p29 f29 x).V (fun w => Q w.1 w.2) := by kernel_rfl
set_option maxRecDepth 100000 in
theorem ok9 : EnvOK Try.prog (E9 pp27 ff27 pp29 ff29) := envOK_of (by
  intro p hp
  simp only [List.mem_cons, List.not_mem_nil, or_false] at hp
  rcases hp with rfl | rfl
  · exact snd27
  · exact snd29)
theorem b9 (x : X9) (h : (tr9 pp27 ff27 pp29 ff29 x).U) : Holds (evFun TT (E9 pp27 ff27 pp29 ff29) Try.f9.ntmps (fun _ => none) (bodyOf Try.f9) Try.f9.results.toList P9 R9 x (fun r o => (r, o) = (tr9 pp27 ff27 pp29 ff29 x).W)) := by
  constructor; rw [e9]; exact VT.sound _ h rfl
set_option maxRecDepth 100000 in
theorem snd9 : Sound Try.prog 9 s9 := sound_h (fs := s9) tt_ok mixed ok9 Try.func9 rfl (by kernel_rfl) (ann := fun _ _ => none) fun x h => b9 x (h _ (List.mem_singleton.2 rfl))
end Go.Proofs.Ytmlolnaannoifaa

/- A function of the program as a plain function. Written by wip/gen/gen.py. -/
namespace Go.Proofs.Ytmlolnaannoifaa

/- 43 loop.example/g01193/impl.in -/
abbrev P43 : List PK := [.val (.int .i64), .val (.int .i64), .val (.int .i64)]
abbrev R43 : List RK := [.one .bool]
abbrev X43 : Type := Int × Int × Int × Unit
abbrev W43 : Type := (Bool × Unit) × Unit
noncomputable def tr43 (x : X43) : VT W43 :=
  let t9 := decide (x.2.1 ≤ x.1)
  .ite t9 (
    let t13 := decide (x.1 ≤ x.2.2.1)
    .ret ((t13, ()), (()))
  ) (
    .ret ((false, ()), (()))
  )
noncomputable def pp43 (x : X43) : List Prop := [(tr43 x).U]
noncomputable def ff43 (x : X43) : W43 := (tr43 x).W
noncomputable def s43 : FSpec := ⟨P43, R43, pp43, ff43⟩
def E43 : Env := fun f => get1 [] f
set_option maxRecDepth 100000 in
theorem e43 (x : X43) (Q : RsT R43 → OsT P43 → Prop) : evFun TT (E43) Try.f43.ntmps (fun _ => none) (bodyOf Try.f43) Try.f43.results.toList P43 R43 x Q = (tr43 x).V (fun w => Q w.1 w.2) := by kernel_rfl
set_option maxRecDepth 100000 in
theorem ok43 : EnvOK Try.prog E43 := envOK_of (by intro p hp; simp at hp)
theorem b43 (x : X43) (h : (tr43 x).U) : Holds (evFun TT (E43) Try.f43.ntmps (fun _ => none) (bodyOf Try.f43) Try.f43.results.toList P43 R43 x (fun r o => (r, o) = (tr43 x).W)) := by
  constructor; rw [e43]; exact VT.sound _ h rfl
set_option maxRecDepth 100000 in
theorem snd43 : Sound Try.prog 43 s43 := sound_h (fs := s43) tt_ok mixed ok43 Try.func43 rfl (by kernel_rfl) (ann := fun _ _ => none) fun x h => b43 x (h _ (List.mem_singleton.2 rfl))
end Go.Proofs.Ytmlolnaannoifaa

/- A function of the program as a plain function. Written by wip/gen/gen.py. -/
namespace Go.Proofs.Ytmlolnaannoifaa

/- 61 loop.example/g01193/impl.ruleOf -/
abbrev P61 : List PK := [.val (.int .i64)]
abbrev R61 : List RK := [.st (.pair (.int .i64) (.pair (.int .i64) (.pair .bool (.pair (.int .i64) .unit)))), .one .bool]
abbrev X61 : Type := Int × Unit
abbrev W61 : Type := ((Int × Int × Bool × Int × Unit) × Bool × Unit) × Unit
noncomputable def tr61 (x : X61) : VT W61 :=
  let t6 := decide (x.1 = (0 : Int))
  .ite t6 (
    .ret ((((1 : Int), (0 : Int), false, (1 : Int), ()), true, ()), (()))
  ) (
    let t9 := decide (x.1 = (1 : Int))
    .ite t9 (
      .ret ((((3 : Int), (0 : Int), false, (1 : Int), ()), true, ()), (()))
    ) (
      let t12 := decide (x.1 = (2 : Int))
      .ite t12 (
        .ite t12 (
          .ret ((((2 : Int), (0 : Int), false, (1 : Int), ()), true, ()), (()))
        ) (
          let t16 := decide (x.1 = (4 : Int))
          .ite t16 (
            .ret ((((4 : Int), (0 : Int), false, (0 : Int), ()), true, ()), (()))
          ) (
            let t19 := decide (x.1 = (5 : Int))
            .ite t19 (
              .ite t19 (
                .ret ((((0 : Int), (2 : Int), false, (0 : Int), ()), true, ()), (()))
              ) (
                let t24 := decide (x.1 = (8 : Int))
                .ite t24 (
                  .ret ((((1 : Int), (2 : Int), false, (2 : Int), ()), true, ()), (()))
                ) (
                  let t27 := decide (x.1 = (9 : Int))
                  .ite t27 (
                    .ret ((((3 : Int), (1 : Int), false, (0 : Int), ()), true, ()), (()))
                  ) (
                    let t30 := decide (x.1 = (10 : Int))
                    .ite t30 (
                      .ret ((((1 : Int), (1 : Int), false, (2 : Int), ()), true, ()), (()))
                    ) (
                      let t33 := decide (x.1 = (11 : Int))
                      .ite t33 (
                        .ret ((((3 : Int), (1 : Int), false, (2 : Int), ()), true, ()), (()))
                      ) (
                        let t36 := decide (x.1 = (12 : Int))
                        .ite t36 (
                          .ret ((((1 : Int), (1 : Int), true, (0 : Int), ()), true, ()), (()))
                        ) (
                          let t39 := decide (x.1 = (13 : Int))
                          .ite t39 (
                            .ret ((((0 : Int), (1 : Int), true, (0 : Int), ()), true, ()), (()))
                          ) (
                            let t42 := decide (x.1 = (14 : Int))
                            .ite t42 (
                              .ret ((((1 : Int), (1 : Int), true, (2 : Int), ()), true, ()), (()))
                            ) (
                              let t45 := decide (x.1 = (15 : Int))
                              .ite t45 (
                                .ret ((((1 : Int), (1 : Int), false, (0 : Int), ()), true, ()), (()))
                              ) (
                                let t48 := decide (x.1 = (16 : Int))
                                .ite t48 (
                                  .ret ((((1 : Int), (1 : Int), false, (1 : Int), ()), true, ()), (()))
                                ) (
                                  .ret ((((0 : Int), (0 : Int), false, (0 : Int), ()), false, ()), (()))
                                )
                              )
                            )
                          )
                        )
                      )
                    )
                  )
                )
              )
            ) (
              let t20 := decide (x.1 = (6 : Int))
              .ite t20 (
                .ite t20 (
                  .ret ((((0 : Int), (2 : Int), false, (0 : Int), ()), true, ()), (()))
                ) (
                  let t24_1 := decide (x.1 = (8 : Int))
                  .ite t24_1 (
                    .ret ((((1 : Int), (2 : Int), false, (2 : Int), ()), true, ()), (()))
                  ) (
                    let t27_1 := decide (x.1 = (9 : Int))
                    .ite t27_1 (
                      .ret ((((3 : Int), (1 : Int), false, (0 : Int), ()), true, ()), (()))
                    ) (
                      let t30_1 := decide (x.1 = (10 : Int))
                      .ite t30_1 (
                        .ret ((((1 : Int), (1 : Int), false, (2 : Int), ()), true, ()), (()))
                      ) (
                        let t33_1 := decide (x.1 = (11 : Int))
                        .ite t33_1 (
                          .ret ((((3 : Int), (1 : Int), false, (2 : Int), ()), true, ()), (()))
                        ) (
                          let t36_1 := decide (x.1 = (12 : Int))
                          .ite t36_1 (
                            .ret ((((1 : Int), (1 : Int), true, (0 : Int), ()), true, ()), (()))
                          ) (
                            let t39_1 := decide (x.1 = (13 : Int))
                            .ite t39_1 (
                              .ret ((((0 : Int), (1 : Int), true, (0 : Int), ()), true, ()), (()))
                            ) (
                              let t42_1 := decide (x.1 = (14 : Int))
                              .ite t42_1 (
                                .ret ((((1 : Int), (1 : Int), true, (2 : Int), ()), true, ()), (()))
                              ) (
                                let t45_1 := decide (x.1 = (15 : Int))
                                .ite t45_1 (
                                  .ret ((((1 : Int), (1 : Int), false, (0 : Int), ()), true, ()), (()))
                                ) (
                                  let t48_1 := decide (x.1 = (16 : Int))
                                  .ite t48_1 (
                                    .ret ((((1 : Int), (1 : Int), false, (1 : Int), ()), true, ()), (()))
                                  ) (
                                    .ret ((((0 : Int), (0 : Int), false, (0 : Int), ()), false, ()), (()))
                                  )
                                )
                              )
                            )
                          )
                        )
                      )
                    )
                  )
                )
              ) (
                let t21 := decide (x.1 = (7 : Int))
                .ite t21 (
                  .ret ((((0 : Int), (2 : Int), false, (0 : Int), ()), true, ()), (()))
                ) (
                  let t24_2 := decide (x.1 = (8 : Int))
                  .ite t24_2 (
                    .ret ((((1 : Int), (2 : Int), false, (2 : Int), ()), true, ()), (()))
                  ) (
                    let t27_2 := decide (x.1 = (9 : Int))
                    .ite t27_2 (
                      .ret ((((3 : Int), (1 : Int), false, (0 : Int), ()), true, ()), (()))
                    ) (
                      let t30_2 := decide (x.1 = (10 : Int))
                      .ite t30_2 (
                        .ret ((((1 : Int), (1 : Int), false, (2 : Int), ()), true, ()), (()))
                      ) (
                        let t33_2 := decide (x.1 = (11 : Int))
                        .ite t33_2 (
                          .ret ((((3 : Int), (1 : Int), false, (2 : Int), ()), true, ()), (()))
                        ) (
                          let t36_2 := decide (x.1 = (12 : Int))
                          .ite t36_2 (
                            .ret ((((1 : Int), (1 : Int), true, (0 : Int), ()), true, ()), (()))
                          ) (
                            let t39_2 := decide (x.1 = (13 : Int))
                            .ite t39_2 (
                              .ret ((((0 : Int), (1 : Int), true, (0 : Int), ()), true, ()), (()))
                            ) (
                              let t42_2 := decide (x.1 = (14 : Int))
                              .ite t42_2 (
                                .ret ((((1 : Int), (1 : Int), true, (2 : Int), ()), true, ()), (()))
                              ) (
                                let t45_2 := decide (x.1 = (15 : Int))
                                .ite t45_2 (
                                  .ret ((((1 : Int), (1 : Int), false, (0 : Int), ()), true, ()), (()))
                                ) (
                                  let t48_2 := decide (x.1 = (16 : Int))
                                  .ite t48_2 (
                                    .ret ((((1 : Int), (1 : Int), false, (1 : Int), ()), true, ()), (()))
                                  ) (
                                    .ret ((((0 : Int), (0 : Int), false, (0 : Int), ()), false, ()), (()))
                                  )
                                )
                              )
                            )
                          )
                        )
                      )
                    )
                  )
                )
              )
            )
          )
        )
      ) (
        let t13 := decide (x.1 = (3 : Int))
        .ite t13 (
          .ret ((((2 : Int), (0 : Int), false, (1 : Int), ()), true, ()), (()))
        ) (
          let t16_1 := decide (x.1 = (4 : Int))
          .ite t16_1 (
            .ret ((((4 : Int), (0 : Int), false, (0 : Int), ()), true, ()), (()))
          ) (
            let t19_1 := decide (x.1 = (5 : Int))
            .ite t19_1 (
              .ite t19_1 (
                .ret ((((0 : Int), (2 : Int), false, (0 : Int), ()), true, ()), (()))
              ) (
                let t24_3 := decide (x.1 = (8 : Int))
                .ite t24_3 (
                  .ret ((((1 : Int), (2 : Int), false, (2 : Int), ()), true, ()), (()))
                ) (
                  let t27_3 := decide (x.1 = (9 : Int))
                  .ite t27_3 (
                    .ret ((((3 : Int), (1 : Int), false, (0 : Int), ()), true, ()), (()))
                  ) (
                    let t30_3 := decide (x.1 = (10 : Int))
                    .ite t30_3 (
                      .ret ((((1 : Int), (1 : Int), false, (2 : Int), ()), true, ()), (()))
                    ) (
                      let t33_3 := decide (x.1 = (11 : Int))
                      .ite t33_3 (
                        .ret ((((3 : Int), (1 : Int), false, (2 : Int), ()), true, ()), (()))
                      ) (
                        let t36_3 := decide (x.1 = (12 : Int))
                        .ite t36_3 (
                          .ret ((((1 : Int), (1 : Int), true, (0 : Int), ()), true, ()), (()))
                        ) (
                          let t39_3 := decide (x.1 = (13 : Int))
                          .ite t39_3 (
                            .ret ((((0 : Int), (1 : Int), true, (0 : Int), ()), true, ()), (()))
                          ) (
                            let t42_3 := decide (x.1 = (14 : Int))
                            .ite t42_3 (
                              .ret ((((1 : Int), (1 : Int), true, (2 : Int), ()), true, ()), (()))
                            ) (
                              let t45_3 := decide (x.1 = (15 : Int))
                              .ite t45_3 (
                                .ret ((((1 : Int), (1 : Int), false, (0 : Int), ()), true, ()), (()))
                              ) (
                                let t48_3 := decide (x.1 = (16 : Int))
                                .ite t48_3 (
                                  .ret ((((1 : Int), (1 : Int), false, (1 : Int), ()), true, ()), (()))
                                ) (
                                  .ret ((((0 : Int), (0 : Int), false, (0 : Int), ()), false, ()), (()))
                                )
                              )
                            )
                          )
                        )
                      )
                    )
                  )
                )
              )
            ) (
              let t20_1 := decide (x.1 = (6 : Int))
              .ite t20_1 (
                .ite t20_1 (
                  .ret ((((0 : Int), (2 : Int), false, (0 : Int), ()), true, ()), (()))
                ) (
                  let t24_4 := decide (x.1 = (8 : Int))
                  .ite t24_4 (
                    .ret ((((1 : Int), (2 : Int), false, (2 : Int), ()), true, ()), (()))
                  ) (
                    let t27_4 := decide (x.1 = (9 : Int))
                    .ite t27_4 (
                      .ret ((((3 : Int), (1 : Int), false, (0 : Int), ()), true, ()), (()))
                    ) (
                      let t30_4 := decide (x.1 = (10 : Int))
                      .ite t30_4 (
                        .ret ((((1 : Int), (1 : Int), false, (2 : Int), ()), true, ()), (()))
                      ) (
                        let t33_4 := decide (x.1 = (11 : Int))
                        .ite t33_4 (
                          .ret ((((3 : Int), (1 : Int), false, (2 : Int), ()), true, ()), (()))
                        ) (
                          let t36_4 := decide (x.1 = (12 : Int))
                          .ite t36_4 (
                            .ret ((((1 : Int), (1 : Int), true, (0 : Int), ()), true, ()), (()))
                          ) (
                            let t39_4 := decide (x.1 = (13 : Int))
                            .ite t39_4 (
                              .ret ((((0 : Int), (1 : Int), true, (0 : Int), ()), true, ()), (()))
                            ) (
                              let t42_4 := decide (x.1 = (14 : Int))
                              .ite t42_4 (
                                .ret ((((1 : Int), (1 : Int), true, (2 : Int), ()), true, ()), (()))
                              ) (
                                let t45_4 := decide (x.1 = (15 : Int))
                                .ite t45_4 (
                                  .ret ((((1 : Int), (1 : Int), false, (0 : Int), ()), true, ()), (()))
                                ) (
                                  let t48_4 := decide (x.1 = (16 : Int))
                                  .ite t48_4 (
                                    .ret ((((1 : Int), (1 : Int), false, (1 : Int), ()), true, ()), (()))
                                  ) (
                                    .ret ((((0 : Int), (0 : Int), false, (0 : Int), ()), false, ()), (()))
                                  )
                                )
                              )
                            )
                          )
                        )
                      )
                    )
                  )
                )
              ) (
                let t21_1 := decide (x.1 = (7 : Int))
                .ite t21_1 (
                  .ret ((((0 : Int), (2 : Int), false, (0 : Int), ()), true, ()), (()))
                ) (
                  let t24_5 := decide (x.1 = (8 : Int))
                  .ite t24_5 (
                    .ret ((((1 : Int), (2 : Int), false, (2 : Int), ()), true, ()), (()))
                  ) (
                    let t27_5 := decide (x.1 = (9 : Int))
                    .ite t27_5 (
                      .ret ((((3 : Int), (1 : Int), false, (0 : Int), ()), true, ()), (()))
                    ) (
                      let t30_5 := decide (x.1 = (10 : Int))
                      .ite t30_5 (
                        .ret ((((1 : Int), (1 : Int), false, (2 : Int), ()), true, ()), (()))
                      ) (
                        let t33_5 := decide (x.1 = (11 : Int))
                        .ite t33_5 (
                          .ret ((((3 : Int), (1 : Int), false, (2 : Int), ()), true, ()), (()))
                        ) (
                          let t36_5 := decide (x.1 = (12 : Int))
                          .ite t36_5 (
                            .ret ((((1 : Int), (1 : Int), true, (0 : Int), ()), true, ()), (()))
                          ) (
                            let t39_5 := decide (x.1 = (13 : Int))
                            .ite t39_5 (
                              .ret ((((0 : Int), (1 : Int), true, (0 : Int), ()), true, ()), (()))
                            ) (
                              let t42_5 := decide (x.1 = (14 : Int))
                              .ite t42_5 (
                                .ret ((((1 : Int), (1 : Int), true, (2 : Int), ()), true, ()), (()))
                              ) (
                                let t45_5 := decide (x.1 = (15 : Int))
                                .ite t45_5 (
                                  .ret ((((1 : Int), (1 : Int), false, (0 : Int), ()), true, ()), (()))
                                ) (
                                  let t48_5 := decide (x.1 = (16 : Int))
                                  .ite t48_5 (
                                    .ret ((((1 : Int), (1 : Int), false, (1 : Int), ()), true, ()), (()))
                                  ) (
                                    .ret ((((0 : Int), (0 : Int), false, (0 : Int), ()), false, ()), (()))
                                  )
                                )
                              )
                            )
                          )
                        )
                      )
                    )
                  )
                )
              )
            )
          )
        )
      )
    )
  )
noncomputable def pp61 (x : X61) : List Prop := [(tr61 x).U]
noncomputable def ff61 (x : X61) : W61 := (tr61 x).W
noncomputable def s61 : FSpec := ⟨P61, R61, pp61, ff61⟩
def E61 : Env := fun f => get1 [] f
set_option maxRecDepth 100000 in
theorem e61 (x : X61) (Q : RsT R61 → OsT P61 → Prop) : evFun TT (E61) Try.f61.ntmps (fun _ => none) (bodyOf Try.f61) Try.f61.results.toList P61 R61 x Q = (tr61 x).V (fun w => Q w.1 w.2) := by kernel_rfl
set_option maxRecDepth 100000 in
theorem ok61 : EnvOK Try.prog E61 := envOK_of (by intro p hp; simp at hp)
theorem b61 (x : X61) (h : (tr61 x).U) : Holds (evFun TT (E61) Try.f61.ntmps (fun _ => none) (bodyOf Try.f61) Try.f61.results.toList P61 R61 x (fun r o => (r, o) = (tr61 x).W)) := by
  constructor; rw [e61]; exact VT.sound _ h rfl
set_option maxRecDepth 100000 in
theorem snd61 : Sound Try.prog 61 s61 := sound_h (fs := s61) tt_ok mixed ok61 Try.func61 rfl (by kernel_rfl) (ann := fun _ _ => none) fun x h => b61 x (h _ (List.mem_singleton.2 rfl))
end Go.Proofs.Ytmlolnaannoifaa

/- A function of the program as a plain function. Written by wip/gen/gen.py. -/
namespace Go.Proofs.Ytmlolnaannoifaa

/- 139 slices.IndexFunc[[]float32,float32] -/
abbrev P139 : List PK := [.val (.sl (.flt .f32)), .fnp (.flt .f32) .bool]
abbrev R139 : List RK := [.one (.int .i64)]
abbrev X139 : Type := List Nat × (Nat → Bool) × Unit
abbrev W139 : Type := (Int × Unit) × Unit
abbrev K139_r2 : Type := Int × Int × Unit
noncomputable def lp139_1 (x : X139) (k : K139_r2) : VT (K139_r2 ⊕ W139) :=
  let t9 := decide (k.2.1 < k.1)
  .ite t9 (
    .step (0 ≤ k.2.1) (
    .step (k.2.1 < x.1.length) (
    let t14 := x.1.getD k.2.1.toNat (0 : Nat)
    let t16 := x.2.1 t14
    .ite t16 (
      .exit (
      .ret ((k.2.1, ()), (())))
    ) (
      let t18 := IntKind.wrap .i64 (k.2.1 + (1 : Int))
      .next (k.1, t18, ()) (fun y q => (x.1 = x.1) ∧ (x.2.1 = x.2.1) ∧ (k.1 = y.1) ∧ (t18 = y.2.1) ∧ q) (fun _ h => ⟨rfl, rfl, rfl, rfl, h⟩)
    )))
  ) (
    .exit (
    .ret (((-1 : Int), ()), (())))
  )
def an139 (x : X139) : Nat → Option Ann := fun i =>
  bif Nat.beq i 2 then some ⟨K139_r2, fun k => ⟨[(0, .one (.d (.sl (.flt .f32)) x.1)), (1, .one (.fnv (.flt .f32) .bool x.2.1)), (7, .one (.d (.int .i64) k.1)), (8, .one (.d (.int .i64) k.2.1))], []⟩, []⟩ else
  none
noncomputable def tr139 (x : X139) : VT W139 :=
  let t7 := (x.1.length : Int)
  .loop (t7, (0 : Int), ()) (fun y q => (x.1 = x.1) ∧ (x.2.1 = x.2.1) ∧ (t7 = y.1) ∧ ((0 : Int) = y.2.1) ∧ q) (fun _ h => ⟨rfl, rfl, rfl, rfl, h⟩) ((0, ()), (())) (lp139_1 x)
noncomputable def pp139 (x : X139) : List Prop := [(tr139 x).U]
noncomputable def ff139 (x : X139) : W139 := (tr139 x).W
noncomputable def s139 : FSpec := ⟨P139, R139, pp139, ff139⟩
def E139 : Env := fun f => get1 [] f
set_option maxRecDepth 100000 in
theorem e139 (x : X139) (Q : RsT R139 → OsT P139 → Prop) : evFun TT (E139) Try.f139.ntmps (an139 x) (bodyOf Try.f139) Try.f139.results.toList P139 R139 x Q = (tr139 x).V (fun w => Q w.1 w.2) := by kernel_rfl
set_option maxRecDepth 100000 in
theorem ok139 : EnvOK Try.prog E139 := envOK_of (by intro p hp; simp at hp)
theorem b139 (x : X139) (h : (tr139 x).U) : Holds (evFun TT (E139) Try.f139.ntmps (an139 x) (bodyOf Try.f139) Try.f139.results.toList P139 R139 x (fun r o => (r, o) = (tr139 x).W)) := by
  constructor; rw [e139]; exact VT.sound _ h rfl
set_option maxRecDepth 100000 in
theorem snd139 : Sound Try.prog 139 s139 := sound_h (fs := s139) tt_ok mixed ok139 Try.func139 rfl (by kernel_rfl) (ann := an139) fun x h => b139 x (h _ (List.mem_singleton.2 rfl))
end Go.Proofs.Ytmlolnaannoifaa

/- A function of the program as a plain function. Written by wip/gen/gen.py. -/
namespace Go.Proofs.Ytmlolnaannoifaa

/- 105 slices.ContainsFunc[[]float32,float32] -/
abbrev P105 : List PK := [.val (.sl (.flt .f32)), .fnp (.flt .f32) .bool]
abbrev R105 : List RK := [.one .bool]
abbrev X105 : Type := List Nat × (Nat → Bool) × Unit
abbrev W105 : Type := (Bool × Unit) × Unit
noncomputable def tr105 (p139 : X139 → List Prop) (f139 : X139 → W139) (x : X105) : VT W105 :=
  .pre (p139 (x.1, (x.2.1), ())) (
  let t7 := f139 (x.1, (x.2.1), ())
  let t8 := decide ((0 : Int) ≤ t7.1.1)
  .ret ((t8, ()), (())))
noncomputable def pp105 (x : X105) : List Prop := [(tr105 pp139 ff139 x).U]
noncomputable def ff105 (x : X105) : W105 := (tr105 pp139 ff139 x).W
noncomputable def s105 : FSpec := ⟨P105, R105, pp105, ff105⟩
def E105 (p139 : X139 → List Prop) (f139 : X139 → W139) : Env := fun f => get1 [(139, ⟨P139, R139, p139, f139⟩)] f
set_option maxRecDepth 100000 in
theorem e105 (p139 : X139 → List Prop) (f139 : X139 → W139) (x : X105) (Q : RsT R105 → OsT P105 → Prop) : evFun TT (E105 p139 f139) Try.f105.ntmps (fun _ => none) (bodyOf Try.f105) Try.f105.results.toList P105 R105 x Q = (tr105 p139 f139 x).V (fun w => Q w.1 w.2) := by kernel_rfl
set_option maxRecDepth 100000 in
theorem ok105 : EnvOK Try.prog (E105 pp139 ff139) := envOK_of (by
  intro p hp
  simp only [List.mem_cons, List.not_mem_nil, or_false] at hp
  rcases hp with rfl
  · exact snd139)
theorem b105 (x : X105) (h : (tr105 pp139 ff139 x).U) : Holds (evFun TT (E105 pp139 ff139) Try.f105.ntmps (fun _ => none) (bodyOf Try.f105) Try.f105.results.toList P105 R105 x (fun r o => (r, o) = (tr105 pp139 ff139 x).W)) := by
  constructor; rw [e105]; exact VT.sound _ h rfl
set_option maxRecDepth 100000 in
theorem snd105 : Sound Try.prog 105 s105 := sound_h (fs := s105) tt_ok mixed ok105 Try.func105 rfl (by kernel_rfl) (ann := fun _ _ => none) fun x h => b105 x (h _ (List.mem_singleton.2 rfl))
end Go.Proofs.Ytmlolnaannoifaa

/- A function of the program as a plain function. Written by wip/gen/gen.py. -/
namespace Go.Proofs.Ytmlolnaannoifaa

/- 138 loop.example/g01193/impl.IsFinite -/
abbrev P138 : List PK := [.val (.flt .f32)]
abbrev R138 : List RK := [.one .bool]
abbrev X138 : Type := Nat × Unit
abbrev W138 : Type := (Bool × Unit) × Unit
noncomputable def tr138 (x : X138) : VT W138 :=
  let t5 := fop .sub .f32 x.1 x.1
  let t6 := feq .f32 t5 (0 : Nat)
  .ret ((t6, ()), (()))
noncomputable def pp138 (x : X138) : List Prop := [(tr138 x).U]
noncomputable def ff138 (x : X138) : W138 := (tr138 x).W
noncomputable def s138 : FSpec := ⟨P138, R138, pp138, ff138⟩
def E138 : Env := fun f => get1 [] f
set_option maxRecDepth 100000 in
theorem e138 (x : X138) (Q : RsT R138 → OsT P138 → Prop) : evFun TT (E138) Try.f138.ntmps (fun _ => none) (bodyOf Try.f138) Try.f138.results.toList P138 R138 x Q = (tr138 x).V (fun w => Q w.1 w.2) := by kernel_rfl
set_option maxRecDepth 100000 in
theorem ok138 : EnvOK Try.prog E138 := envOK_of (by intro p hp; simp at hp)
theorem b138 (x : X138) (h : (tr138 x).U) : Holds (evFun TT (E138) Try.f138.ntmps (fun _ => none) (bodyOf Try.f138) Try.f138.results.toList P138 R138 x (fun r o => (r, o) = (tr138 x).W)) := by
  constructor; rw [e138]; exact VT.sound _ h rfl
set_option maxRecDepth 100000 in
theorem snd138 : Sound Try.prog 138 s138 := sound_h (fs := s138) tt_ok mixed ok138 Try.func138 rfl (by kernel_rfl) (ann := fun _ _ => none) fun x h => b138 x (h _ (List.mem_singleton.2 rfl))
end Go.Proofs.Ytmlolnaannoifaa

/- A function of the program as a plain function. Written by wip/gen/gen.py. -/
namespace Go.Proofs.Ytmlolnaannoifaa

/- 137 loop.example/g01193/impl.finite$1 -/
abbrev P137 : List PK := [.val (.flt .f32)]
abbrev R137 : List RK := [.one .bool]
abbrev X137 : Type := Nat × Unit
abbrev W137 : Type := (Bool × Unit) × Unit
noncomputable def tr137 (p138 : X138 → List Prop) (f138 : X138 → W138) (x : X137) : VT W137 :=
  .pre (p138 (x.1, ())) (
  let t4 := f138 (x.1, ())
  let t5 := !t4.1.1
  .ret ((t5, ()), (())))
noncomputable def pp137 (x : X137) : List Prop := [(tr137 pp138 ff138 x).U]
noncomputable def ff137 (x : X137) : W137 := (tr137 pp138 ff138 x).W
noncomputable def s137 : FSpec := ⟨P137, R137, pp137, ff137⟩
def E137 (p138 : X138 → List Prop) (f138 : X138 → W138) : Env := fun f => get1 [(138, ⟨P138, R138, p138, f138⟩)] f
set_option maxRecDepth 100000 in
theorem e137 (p138 : X138 → List Prop) (f138 : X138 → W138) (x : X137) (Q : RsT R137 → OsT P137 → Prop) : evFun TT (E137 p138 f138) Try.f137.ntmps (fun _ => none) (bodyOf Try.f137) Try.f137.results.toList P137 R137 x Q = (tr137 p138 f138 x).V (fun w => Q w.1 w.2) := by kernel_rfl
set_option maxRecDepth 100000 in
theorem ok137 : EnvOK Try.prog (E137 pp138 ff138) := envOK_of (by
  intro p hp
  simp only [List.mem_cons, List.not_mem_nil, or_false] at hp
  rcases hp with rfl
  · exact snd138)
theorem b137 (x : X137) (h : (tr137 pp138 ff138 x).U) : Holds (evFun TT (E137 pp138 ff138) Try.f137.ntmps (fun _ => none) (bodyOf Try.f137) Try.f137.results.toList P137 R137 x (fun r o => (r, o) = (tr137 pp138 ff138 x).W)) := by
  constructor; rw [e137]; exact VT.sound _ h rfl
set_option maxRecDepth 100000 in
theorem snd137 : Sound Try.prog 137 s137 := sound_h (fs := s137) tt_ok mixed ok137 Try.func137 rfl (by kernel_rfl) (ann := fun _ _ => none) fun x h => b137 x (h _ (List.mem_singleton.2 rfl))
end Go.Proofs.Ytmlolnaannoifaa

/- A function of the program as a plain function. Written by wip/gen/gen.py. -/
namespace Go.Proofs.Ytmlolnaannoifaa

/- 104 loop.example/g01193/impl.finite -/
abbrev P104 : List PK := [.val (.sl (.flt .f32))]
abbrev R104 : List RK := [.one .bool]
abbrev X104 : Type := List Nat × Unit
abbrev W104 : Type := (Bool × Unit) × Unit
noncomputable def tr104 (p105 : X105 → List Prop) (f105 : X105 → W105) (p137 : X137 → List Prop) (f137 : X137 → W137) (x : X104) : VT W104 :=
  .step (∀ x : Nat, ∀ p ∈ p137 (x, ()), p) (
  .pre (p105 (x.1, (fun x => (f137 (x, ())).1.1), ())) (
  let t4 := f105 (x.1, (fun x => (f137 (x, ())).1.1), ())
  let t5 := !t4.1.1
  .ret ((t5, ()), (()))))
noncomputable def pp104 (x : X104) : List Prop := [(tr104 pp105 ff105 pp137 ff137 x).U]
noncomputable def ff104 (x : X104) : W104 := (tr104 pp105 ff105 pp137 ff137 x).W
noncomputable def s104 : FSpec := ⟨P104, R104, pp104, ff104⟩
def E104 (p105 : X105 → List Prop) (f105 : X105 → W105) (p137 : X137 → List Prop) (f137 : X137 → W137) : Env := fun f => get1 [(105, ⟨P105, R105, p105, f105⟩), (137, ⟨P137, R137, p137, f137⟩)] f
set_option maxRecDepth 100000 in
theorem e104 (p105 : X105 → List Prop) (f105 : X105 → W105) (p137 : X137 → List Prop) (f137 : X137 → W137) (x : X104) (Q : RsT R104 → OsT P104 → Prop) : evFun TT (E104 p105 f105 p137 f137) Try.f104.ntmps (fun _ => none) (bodyOf Try.f104) Try.f104.results.toList P104 R104 x Q = (tr104 p105 f105 p137 f137 x).V (fun w => Q w.1 w.2) := by kernel_rfl
set_option maxRecDepth 100000 in
theorem ok104 : EnvOK Try.prog (E104 pp105 ff105 pp137 ff137) := envOK_of (by
  intro p hp
  simp only [List.mem_cons, List.not_mem_nil, or_false] at hp
  rcases hp with rfl | rfl
  · exact snd105
  · exact snd137)
theorem b104 (x : X104) (h : (tr104 pp105 ff105 pp137 ff137 x).U) : Holds (evFun TT (E104 pp105 ff105 pp137 ff137) Try.f104.ntmps (fun _ => none) (bodyOf Try.f104) Try.f104.results.toList P104 R104 x (fun r o => (r, o) = (tr104 pp105 ff105 pp137 ff137 x).W)) := by
  constructor; rw [e104]; exact VT.sound _ h rfl
set_option maxRecDepth 100000 in
theorem snd104 : Sound Try.prog 104 s104 := sound_h (fs := s104) tt_ok mixed ok104 Try.func104 rfl (by kernel_rfl) (ann := fun _ _ => none) fun x h => b104 x (h _ (List.mem_singleton.2 rfl))
end Go.Proofs.Ytmlolnaannoifaa

/- A function of the program as a plain function. Written by wip/gen/gen.py. -/
namespace Go.Proofs.Ytmlolnaannoifaa

/- 106 loop.example/g01193/impl.numbersOk$1 -/
abbrev P106 : List PK := [.val (.flt .f32), .ro (.pair (.int .i64) (.pair (.int .i64) (.pair .bool (.pair (.int .i64) .unit))))]
abbrev R106 : List RK := [.one .bool]
abbrev X106 : Type := Nat × (Int × Int × Bool × Int × Unit) × Unit
abbrev W106 : Type := (Bool × Unit) × Unit
noncomputable def tr106 (x : X106) : VT W106 :=
  let t6 := decide (x.2.1.2.2.2.1 = (1 : Int))
  .ite t6 (
    let t9 := flss .f32 x.1 (0 : Nat)
    .ite t9 (
      .ret ((true, ()), (()))
    ) (
      let t14 := decide (x.2.1.2.2.2.1 = (2 : Int))
      .ite t14 (
        let t17 := fleq .f32 x.1 (0 : Nat)
        .ret ((t17, ()), (()))
      ) (
        .ret ((false, ()), (()))
      )
    )
  ) (
    let t14_1 := decide (x.2.1.2.2.2.1 = (2 : Int))
    .ite t14_1 (
      let t17_1 := fleq .f32 x.1 (0 : Nat)
      .ret ((t17_1, ()), (()))
    ) (
      .ret ((false, ()), (()))
    )
  )
noncomputable def pp106 (x : X106) : List Prop := [(tr106 x).U]
noncomputable def ff106 (x : X106) : W106 := (tr106 x).W
noncomputable def s106 : FSpec := ⟨P106, R106, pp106, ff106⟩
def E106 : Env := fun f => get1 [] f
set_option maxRecDepth 100000 in
theorem e106 (x : X106) (Q : RsT R106 → OsT P106 → Prop) : evFun TT (E106) Try.f106.ntmps (fun _ => none) (bodyOf Try.f106) Try.f106.results.toList P106 R106 x Q = (tr106 x).V (fun w => Q w.1 w.2) := by kernel_rfl
set_option maxRecDepth 100000 in
theorem ok106 : EnvOK Try.prog E106 := envOK_of (by intro p hp; simp at hp)
theorem b106 (x : X106) (h : (tr106 x).U) : Holds (evFun TT (E106) Try.f106.ntmps (fun _ => none) (bodyOf Try.f106) Try.f106.results.toList P106 R106 x (fun r o => (r, o) = (tr106 x).W)) := by
  constructor; rw [e106]; exact VT.sound _ h rfl
set_option maxRecDepth 100000 in
theorem snd106 : Sound Try.prog 106 s106 := sound_h (fs := s106) tt_ok mixed ok106 Try.func106 rfl (by kernel_rfl) (ann := fun _ _ => none) fun x h => b106 x (h _ (List.mem_singleton.2 rfl))
end Go.Proofs.Ytmlolnaannoifaa

/- A function of the program as a plain function. Written by wip/gen/gen.py. -/
namespace Go.Proofs.Ytmlolnaannoifaa

/- 68 loop.example/g01193/impl.numbersOk -/
abbrev P68 : List PK := [.val (.int .i64), .val (.sl (.flt .f32))]
abbrev R68 : List RK := [.one .bool]
abbrev X68 : Type := Int × List Nat × Unit
abbrev W68 : Type := (Bool × Unit) × Unit
noncomputable def tr68 (p61 : X61 → List Prop) (f61 : X61 → W61) (p104 : X104 → List Prop) (f104 : X104 → W104) (p105 : X105 → List Prop) (f105 : X105 → W105) (p106 : X106 → List Prop) (f106 : X106 → W106) (x : X68) : VT W68 :=
  .pre (p61 (x.1, ())) (
  let t9 := f61 (x.1, ())
  let t13 := !t9.1.2.1
  .ite t13 (
    .ret ((false, ()), (()))
  ) (
    let t16 := (x.2.1.length : Int)
    let t19 := !decide (t16 = t9.1.1.1)
    .ite t19 (
      .ret ((false, ()), (()))
    ) (
      .pre (p104 (x.2.1, ())) (
      let t23 := f104 (x.2.1, ())
      let t24 := !t23.1.1
      .ite t24 (
        .ret ((false, ()), (()))
      ) (
        .step (∀ x : Nat, ∀ p ∈ p106 (x, (t9.1.1.1, t9.1.1.2.1, t9.1.1.2.2.1, t9.1.1.2.2.2.1, ()), ()), p) (
        .pre (p105 (x.2.1, (fun x => (f106 (x, (t9.1.1.1, t9.1.1.2.1, t9.1.1.2.2.1, t9.1.1.2.2.2.1, ()), ())).1.1), ())) (
        let t28 := f105 (x.2.1, (fun x => (f106 (x, (t9.1.1.1, t9.1.1.2.1, t9.1.1.2.2.1, t9.1.1.2.2.2.1, ()), ())).1.1), ())
        let t29 := !t28.1.1
        .ret ((t29, ()), (()))))
      ))
    )
  ))
noncomputable def pp68 (x : X68) : List Prop := [(tr68 pp61 ff61 pp104 ff104 pp105 ff105 pp106 ff106 x).U]
noncomputable def ff68 (x : X68) : W68 := (tr68 pp61 ff61 pp104 ff104 pp105 ff105 pp106 ff106 x).W
noncomputable def s68 : FSpec := ⟨P68, R68, pp68, ff68⟩
def E68 (p61 : X61 → List Prop) (f61 : X61 → W61) (p104 : X104 → List Prop) (f104 : X104 → W104) (p105 : X105 → List Prop) (f105 : X105 → W105) (p106 : X106 → List Prop) (f106 : X106 → W106) : Env := fun f => get1 [(61, ⟨P61, R61, p61, f61⟩), (104, ⟨P104, R104, p104, f104⟩), (105, ⟨P105, R105, p105, f105⟩), (106, ⟨P106, R106, p106, f106⟩)] f
set_option maxRecDepth 100000 in
theorem e68 (p61 : X61 → List Prop) (f61 : X61 → W61) (p104 : X104 → List Prop) (f104 : X104 → W104) (p105 : X105 → List Prop) (f105 : X105 → W105) (p106 : X106 → List Prop) (f106 : X106 → W106) (x : X68) (Q : RsT R68 → OsT P68 → Prop) : evFun TT (E68 p61 f61 p104 f104 p105 f105 p106 f106) Try.f68.ntmps (fun _ => none) (bodyOf Try.f68) Try.f68.results.toList P68 R68 x Q = (tr68 p61 f61 p104 f104 p105 f105 p106 f106 x).V (fun w => Q w.1 w.2) := by kernel_rfl
set_option maxRecDepth 100000 in
theorem ok68 : EnvOK Try.prog (E68 pp61 ff61 pp104 ff104 pp105 ff105 pp106 ff106) := envOK_of (by
  intro p hp
  simp only [List.mem_cons, List.not_mem_nil, or_false] at hp
  rcases hp with rfl | rfl | rfl | rfl
  · exact snd61
  · exact snd104
  · exact snd105
  · exact snd106)
theorem b68 (x : X68) (h : (tr68 pp61 ff61 pp104 ff104 pp105 ff105 pp106 ff106 x).U) : Holds (evFun TT (E68 pp61 ff61 pp104 ff104 pp105 ff105 pp106 ff106) Try.f68.ntmps (fun _ => none) (bodyOf Try.f68) Try.f68.results.toList P68 R68 x (fun r o => (r, o) = (tr68 pp61 ff61 pp104 ff104 pp105 ff105 pp106 ff106 x).W)) := by
  constructor; rw [e68]; exact VT.sound _ h rfl
set_option maxRecDepth 100000 in
theorem snd68 : Sound Try.prog 68 s68 := sound_h (fs := s68) tt_ok mixed ok68 Try.func68 rfl (by kernel_rfl) (ann := fun _ _ => none) fun x h => b68 x (h _ (List.mem_singleton.2 rfl))
end Go.Proofs.Ytmlolnaannoifaa

/- A function of the program as a plain function. Written by wip/gen/gen.py. -/
namespace Go.Proofs.Ytmlolnaannoifaa

/- 69 loop.example/g01193/impl.axisOk -/
abbrev P69 : List PK := [.ro (.pair (.int .i64) (.pair (.int .i64) (.pair (.int .i64) (.pair (.sl (.flt .f32)) .unit))))]
abbrev R69 : List RK := [.one .bool]
abbrev X69 : Type := (Int × Int × Int × List Nat × Unit) × Unit
abbrev W69 : Type := (Bool × Unit) × Unit
noncomputable def tr69 (p43 : X43 → List Prop) (f43 : X43 → W43) (p61 : X61 → List Prop) (f61 : X61 → W61) (x : X69) : VT W69 :=
  .pre (p61 (x.1.1, ())) (
  let t10 := f61 (x.1.1, ())
  let t15 := decide ((0 : Int) < t10.1.1.2.1)
  .ite t15 (
    let t26 := decide (t10.1.1.2.1 = (2 : Int))
    .ite t26 (
      .ret ((true, ()), (()))
    ) (
      let t32 := decide (x.1.2.2.1 = (0 : Int))
      .ite t32 (
        .ret ((true, ()), (()))
      ) (
        .ite t10.1.1.2.2.1 (
          .pre (p43 (x.1.2.2.1, (0 : Int), (2 : Int), ())) (
          let t42 := f43 (x.1.2.2.1, (0 : Int), (2 : Int), ())
          .ret ((t42.1.1, ()), (())))
        ) (
          .ret ((false, ()), (()))
        )
      )
    )
  ) (
    let t21 := decide (x.1.2.1 = (0 : Int))
    .ite t21 (
      let t26_1 := decide (t10.1.1.2.1 = (2 : Int))
      .ite t26_1 (
        .ret ((true, ()), (()))
      ) (
        let t32_1 := decide (x.1.2.2.1 = (0 : Int))
        .ite t32_1 (
          .ret ((true, ()), (()))
        ) (
          .ite t10.1.1.2.2.1 (
            .pre (p43 (x.1.2.2.1, (0 : Int), (2 : Int), ())) (
            let t42_1 := f43 (x.1.2.2.1, (0 : Int), (2 : Int), ())
            .ret ((t42_1.1.1, ()), (())))
          ) (
            .ret ((false, ()), (()))
          )
        )
      )
    ) (
      .ret ((false, ()), (()))
    )
  ))
noncomputable def pp69 (x : X69) : List Prop := [(tr69 pp43 ff43 pp61 ff61 x).U]
noncomputable def ff69 (x : X69) : W69 := (tr69 pp43 ff43 pp61 ff61 x).W
noncomputable def s69 : FSpec := ⟨P69, R69, pp69, ff69⟩
def E69 (p43 : X43 → List Prop) (f43 : X43 → W43) (p61 : X61 → List Prop) (f61 : X61 → W61) : Env := fun f => get1 [(43, ⟨P43, R43, p43, f43⟩), (61, ⟨P61, R61, p61, f61⟩)] f
set_option maxRecDepth 100000 in
theorem e69 (p43 : X43 → List Prop) (f43 : X43 → W43) (p61 : X61 → List Prop) (f61 : X61 → W61) (x : X69) (Q : RsT R69 → OsT P69 → Prop) : evFun TT (E69 p43 f43 p61 f61) Try.f69.ntmps (fun _ => none) (bodyOf Try.f69) Try.f69.results.toList P69 R69 x Q = (tr69 p43 f43 p61 f61 x).V (fun w => Q w.1 w.2) := by kernel_rfl
set_option maxRecDepth 100000 in
theorem ok69 : EnvOK Try.prog (E69 pp43 ff43 pp61 ff61) := envOK_of (by
  intro p hp
  simp only [List.mem_cons, List.not_mem_nil, or_false] at hp
  rcases hp with rfl | rfl
  · exact snd43
  · exact snd61)
theorem b69 (x : X69) (h : (tr69 pp43 ff43 pp61 ff61 x).U) : Holds (evFun TT (E69 pp43 ff43 pp61 ff61) Try.f69.ntmps (fun _ => none) (bodyOf Try.f69) Try.f69.results.toList P69 R69 x (fun r o => (r, o) = (tr69 pp43 ff43 pp61 ff61 x).W)) := by
  constructor; rw [e69]; exact VT.sound _ h rfl
set_option maxRecDepth 100000 in
theorem snd69 : Sound Try.prog 69 s69 := sound_h (fs := s69) tt_ok mixed ok69 Try.func69 rfl (by kernel_rfl) (ann := fun _ _ => none) fun x h => b69 x (h _ (List.mem_singleton.2 rfl))
end Go.Proofs.Ytmlolnaannoifaa

/- A function of the program as a plain function. Written by wip/gen/gen.py. -/
namespace Go.Proofs.Ytmlolnaannoifaa

/- 70 loop.example/g01193/impl.childrenOf -/
abbrev P70 : List PK := [.ro (.pair (.int .i64) (.pair (.int .i64) (.pair (.int .i64) (.pair (.sl (.flt .f32)) .unit))))]
abbrev R70 : List RK := [.one (.sl (.int .i64))]
abbrev X70 : Type := (Int × Int × Int × List Nat × Unit) × Unit
abbrev W70 : Type := (List Int × Unit) × Unit
noncomputable def tr70 (p61 : X61 → List Prop) (f61 : X61 → W61) (x : X70) : VT W70 :=
  .pre (p61 (x.1.1, ())) (
  let t10 := f61 (x.1.1, ())
  let t21 := [x.1.2.1, x.1.2.2.1]
  .step (0 ≤ (0 : Int)) (
  .step ((0 : Int) ≤ t10.1.1.2.1) (
  .step (t10.1.1.2.1 ≤ t21.length) (
  let t24 := (t21.take (t10.1.1.2.1).toNat).drop ((0 : Int)).toNat
  .ret ((t24, ()), (()))))))
noncomputable def pp70 (x : X70) : List Prop := [(tr70 pp61 ff61 x).U]
noncomputable def ff70 (x : X70) : W70 := (tr70 pp61 ff61 x).W
noncomputable def s70 : FSpec := ⟨P70, R70, pp70, ff70⟩
def E70 (p61 : X61 → List Prop) (f61 : X61 → W61) : Env := fun f => get1 [(61, ⟨P61, R61, p61, f61⟩)] f
set_option maxRecDepth 100000 in
theorem e70 (p61 : X61 → List Prop) (f61 : X61 → W61) (x : X70) (Q : RsT R70 → OsT P70 → Prop) : evFun TT (E70 p61 f61) Try.f70.ntmps (fun _ => none) (bodyOf Try.f70) Try.f70.results.toList P70 R70 x Q = (tr70 p61 f61 x).V (fun w => Q w.1 w.2) := by kernel_rfl
set_option maxRecDepth 100000 in
theorem ok70 : EnvOK Try.prog (E70 pp61 ff61) := envOK_of (by
  intro p hp
  simp only [List.mem_cons, List.not_mem_nil, or_false] at hp
  rcases hp with rfl
  · exact snd61)
theorem b70 (x : X70) (h : (tr70 pp61 ff61 x).U) : Holds (evFun TT (E70 pp61 ff61) Try.f70.ntmps (fun _ => none) (bodyOf Try.f70) Try.f70.results.toList P70 R70 x (fun r o => (r, o) = (tr70 pp61 ff61 x).W)) := by
  constructor; rw [e70]; exact VT.sound _ h rfl
set_option maxRecDepth 100000 in
theorem snd70 : Sound Try.prog 70 s70 := sound_h (fs := s70) tt_ok mixed ok70 Try.func70 rfl (by kernel_rfl) (ann := fun _ _ => none) fun x h => b70 x (h _ (List.mem_singleton.2 rfl))
end Go.Proofs.Ytmlolnaannoifaa

/- A function of the program as a plain function. Written by wip/gen/gen.py. -/
namespace Go.Proofs.Ytmlolnaannoifaa

/- 107 slices.IndexFunc[[]int,int] -/
abbrev P107 : List PK := [.val (.sl (.int .i64)), .fnp (.int .i64) .bool]
abbrev R107 : List RK := [.one (.int .i64)]
abbrev X107 : Type := List Int × (Int → Bool) × Unit
abbrev W107 : Type := (Int × Unit) × Unit
abbrev K107_r2 : Type := Int × Int × Unit
noncomputable def lp107_1 (x : X107) (k : K107_r2) : VT (K107_r2 ⊕ W107) :=
  let t9 := decide (k.2.1 < k.1)
  .ite t9 (
    .step (0 ≤ k.2.1) (
    .step (k.2.1 < x.1.length) (
    let t14 := x.1.getD k.2.1.toNat (0 : Int)
    let t16 := x.2.1 t14
    .ite t16 (
      .exit (
      .ret ((k.2.1, ()), (())))
    ) (
      let t18 := IntKind.wrap .i64 (k.2.1 + (1 : Int))
      .next (k.1, t18, ()) (fun y q => (x.1 = x.1) ∧ (x.2.1 = x.2.1) ∧ (k.1 = y.1) ∧ (t18 = y.2.1) ∧ q) (fun _ h => ⟨rfl, rfl, rfl, rfl, h⟩)
    )))
  ) (
    .exit (
    .ret (((-1 : Int), ()), (())))
  )
def an107 (x : X107) : Nat → Option Ann := fun i =>
  bif Nat.beq i 2 then some ⟨K107_r2, fun k => ⟨[(0, .one (.d (.sl (.int .i64)) x.1)), (1, .one (.fnv (.int .i64) .bool x.2.1)), (7, .one (.d (.int .i64) k.1)), (8, .one (.d (.int .i64) k.2.1))], []⟩, []⟩ else
  none
noncomputable def tr107 (x : X107) : VT W107 :=
  let t7 := (x.1.length : Int)
  .loop (t7, (0 : Int), ()) (fun y q => (x.1 = x.1) ∧ (x.2.1 = x.2.1) ∧ (t7 = y.1) ∧ ((0 : Int) = y.2.1) ∧ q) (fun _ h => ⟨rfl, rfl, rfl, rfl, h⟩) ((0, ()), (())) (lp107_1 x)
noncomputable def pp107 (x : X107) : List Prop := [(tr107 x).U]
noncomputable def ff107 (x : X107) : W107 := (tr107 x).W
noncomputable def s107 : FSpec := ⟨P107, R107, pp107, ff107⟩
def E107 : Env := fun f => get1 [] f
set_option maxRecDepth 100000 in
theorem e107 (x : X107) (Q : RsT R107 → OsT P107 → Prop) : evFun TT (E107) Try.f107.ntmps (an107 x) (bodyOf Try.f107) Try.f107.results.toList P107 R107 x Q = (tr107 x).V (fun w => Q w.1 w.2) := by kernel_rfl
set_option maxRecDepth 100000 in
theorem ok107 : EnvOK Try.prog E107 := envOK_of (by intro p hp; simp at hp)
theorem b107 (x : X107) (h : (tr107 x).U) : Holds (evFun TT (E107) Try.f107.ntmps (an107 x) (bodyOf Try.f107) Try.f107.results.toList P107 R107 x (fun r o => (r, o) = (tr107 x).W)) := by
  constructor; rw [e107]; exact VT.sound _ h rfl
set_option maxRecDepth 100000 in
theorem snd107 : Sound Try.prog 107 s107 := sound_h (fs := s107) tt_ok mixed ok107 Try.func107 rfl (by kernel_rfl) (ann := an107) fun x h => b107 x (h _ (List.mem_singleton.2 rfl))
end Go.Proofs.Ytmlolnaannoifaa
