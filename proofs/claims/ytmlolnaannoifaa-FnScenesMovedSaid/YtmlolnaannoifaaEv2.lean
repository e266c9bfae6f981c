/- An evaluator of the model over told data and its soundness. -/
import Derived.Test.YtmlolnaannoifaaEv1
set_option linter.all false
set_option linter.unusedVariables false
set_option linter.unusedSimpArgs false

/- Slice literals; append. -/
namespace Go.Proofs.Ytmlolnaannoifaa

theorem CLs_replicate {C : Ctx} {m : Mem} {l : List AV1} : ∀ (n : Nat) (vs : List Value), vs.length = n * l.length → (∀ i, i < n → CLs C m l ((vs.drop (i * l.length)).take l.length)) → CLs C m (List.replicate n l).flatten vs
  | 0, vs, h, _ => by
    have : vs = [] := List.length_eq_zero_iff.1 (by simpa using h)
    subst this; trivial
  | n + 1, vs, h, hp => by
    rw [List.replicate_succ, List.flatten_cons]
    rw [← List.take_append_drop l.length vs]
    have h0 := hp 0 (by omega)
    simp only [Nat.zero_mul, List.drop_zero] at h0
    refine CLs.app h0 (CLs_replicate n _ (by rw [List.length_drop, h, Nat.add_mul]; omega) (fun i hi => ?_))
    have := hp (i + 1) (by omega)
    rw [List.drop_drop]
    rw [Nat.add_mul, Nat.one_mul, Nat.add_comm] at this
    exact this

section
variable {C : Ctx} {m : Mem} {T : Types} {g : View} {c : Nat} {out : Out} {ρ : Operand → Value} {dst : Option Tmp} {type : TypeId} {pos : String} {after : Array Edge} {guard : Option (Nat × Bool)} {vs : List AV}

theorem elemTy_sound (hT : TyOK C.P T) {t : TypeId} {te : TyI} (h : elemTy T t = some te) : ∃ et, (underlying t).run C.P m.w = .ok (.slice et) m.w ∧ C.P.underlying t = some (.slice et) ∧ TyRow C.P et te := by
  unfold elemTy at h
  split at h
  · rename_i ti hti
    obtain ⟨d, hd, hdu, hdt⟩ := (hT t ti hti).run_und (w := m.w)
    split at h
    · rename_i et htd
      obtain rfl := td_slice (hdt.trans htd)
      exact ⟨et, hd, hdu, hT et te h⟩
    · cases h
  · cases h

def partsOf (ρ : Operand → Value) (parts : Array (Nat × Operand)) : Array (Nat × Value) := parts.map fun (i, x) => (i, ρ x)

theorem exec_buildSlice {t : TypeId} {len : Nat} {parts : Array (Nat × Operand)} : execOp ρ ⟨dst, .buildSlice t len parts, type, pos, after, guard⟩ = (do pure (.value (← Instr.buildSlice t len (partsOf ρ parts)))) := rfl

theorem core_buildSlice (hT : TyOK C.P T) {t : TypeId} {len : Nat} {parts : Array (Nat × Operand)} (hm : MemR C m) (hg : ViewOK g m.h) (hvs : VRs C m vs ((parts.toList.map (·.2)).map ρ)) (h : coreBuildSlice T t len (parts.toList.map (·.1)) vs g = some out) (hp : ∀ p ∈ out.ps, p) :
    ExecOK C.P ρ ⟨dst, .buildSlice t len parts, type, pos, after, guard⟩ m.w (After C m out.av (out.sets ++ out.news)) := by
  have hzip : (partsOf ρ parts).toList = (parts.toList.map (·.1)).zip ((parts.toList.map (·.2)).map ρ) := by
    unfold partsOf
    rw [Array.toList_map]
    exact zip_parts ρ parts.toList
  have hpv := pvs_zip (parts.toList.map (·.1)) hvs (by simp)
  have e0 : ∀ f : Nat → Value, (Array.range 0).map f = #[] := fun f => by simp
  unfold coreBuildSlice at h
  split at h
  · rename_i te hte
    obtain ⟨et, hd, _, hr⟩ := elemTy_sound (m := m) hT hte
    obtain ⟨i, zv, hi, hsz, hib, hzv, hz1, hz2, _⟩ := hr.run_info (w := m.w)
    have hzs : zv.cells.size = te.size := by have := hr.zlen; rw [← hz1] at this; simpa using this
    have hcl : CLs C m te.zero zv.cells.toList := by rw [← hz1]; exact zero_cells _ hz2
    split at h
    · rename_i hlen0
      split at h
      · obtain rfl := ok_eq h
        have hparts : parts = #[] := by
          have := hvs.length
          simp at this
          exact this
        have hpm : partsOf ρ parts = #[] := by rw [hparts]; simp [partsOf]
        obtain ⟨h1, h2⟩ := memR_alloc hm (o := .cells #[] et) (U' := m.U) (fun _ h => h) (fun a h => .inl h)
        refine execOK_value (e := Instr.buildSlice t len (partsOf ρ parts)) exec_buildSlice (w' := m.w.alloc (.cells #[] et)) (v := .slice (some ⟨m.w.heap.size, 0, none⟩) 0 0) ?_ ⟨m.U, m.pl, h1, h2, rfl, ⟨_, rfl⟩⟩
        rw [hpm, hlen0]
        simp only [Instr.buildSlice, Sem.run_bind, hd, Result.andThen_ok, hsz, Nat.zero_mul]
        rw [if_neg (by omega)]
        simp only [Sem.run_bind, Result.andThen_ok, if_true, Sem.run_pure, e0]
        rfl
      · cases h
    · split at h
      · cases h
      · rename_i hsmall
        split at h
        · rename_i l hfill
          split at h
          · rename_i ps xs hxs
            obtain rfl := okp_eq h
            obtain ⟨z, hzz⟩ : ∃ z : Array Value, z = (if len * te.size = 0 then #[] else zv.cells) := ⟨_, rfl⟩
            have hlz : te.zero.length = te.size := hr.zlen
            have hc0 : CLs C m (List.replicate len te.zero).flatten ((Array.range (len * te.size)).map (z[· % z.size]!)).toList := by
              by_cases h0 : len * te.size = 0
              · rw [h0, e0]
                have : (List.replicate len te.zero).flatten = [] := by
                  apply List.length_eq_zero_iff.1
                  rw [List.length_flatten]
                  simp [hlz, h0]
                rw [this]; trivial
              · rw [if_neg h0] at hzz
                subst hzz
                refine CLs_replicate len _ (by simp [hlz]) (fun i hi => ?_)
                rw [hlz, ← hzs, zeros_piece hi]
                exact hcl
            obtain ⟨cs', hf1, hf2⟩ := fill_put (sz' := fun i => some (i * te.size, te.size)) (fun j r hj => hj) _ _ hfill hpv hc0
            obtain ⟨hx1, hx2, hx3⟩ := ofElems_sound hm hg hxs hp hf2
            have hkd := hr.szk
            obtain ⟨h1, h2⟩ := memR_alloc hm (o := .cells cs' et) (U' := fun a => m.U a ∨ (a.spot = none ∧ a.block = m.w.heap.size)) (fun _ h => .inl h) (fun a h => h)
            refine execOK_value (e := Instr.buildSlice t len (partsOf ρ parts)) exec_buildSlice (w' := m.w.alloc (.cells cs' et)) (v := .slice (some ⟨m.w.heap.size, 0, none⟩) len len) ?_ ⟨_, m.pl, h1, h2, rfl, ?_⟩
            · simp only [Instr.buildSlice, Sem.run_bind, hd, Result.andThen_ok, hsz]
              rw [if_neg (by omega)]
              by_cases h0 : len * te.size = 0
              · rw [if_pos h0] at hzz ⊢
                subst hzz
                simp only [Sem.run_bind, Sem.run_pure, Result.andThen_ok]
                rw [hzip, hf1]
                rfl
              · rw [if_neg h0] at hzz ⊢
                subst hzz
                simp only [Sem.run_bind, hzv, Sem.run_pure, Result.andThen_ok]
                rw [hzip, hf1]
                rfl
            · refine ⟨some ⟨m.w.heap.size, 0, none⟩, len, by rw [hx1], by omega, fun i hi => ⟨_, (cs'.toList.drop (i * te.kd.sz)).take te.kd.sz, rfl, ?_, fun j hj => ?_, h2.CR (hx3 i hi)⟩⟩
              · exact (hx3 i hi).length
              · rw [Addr.add_mk]
                refine ⟨.inr ⟨rfl, rfl⟩, ?_⟩
                rw [cell_blk (cs := cs') (ty := et) (fz := (0, 0)) alloc_heap_new, List.getElem?_take_of_lt hj, List.getElem?_drop, Array.getElem?_toList, Nat.zero_add]
          · cases h
        · cases h
  · cases h

end

theorem growBy_le (n : Nat) : ∀ (r c : Nat), c < n → Builtin.growBy n r c ≤ n + (n + 768) / 4
  | 0, c, h => by simp only [Builtin.growBy]; omega
  | r + 1, c, h => by
    simp only [Builtin.growBy]
    split
    · omega
    · by_cases hc : c + (c + 768) / 4 < n
      · exact growBy_le n r _ hc
      · cases r with
        | zero => simp only [Builtin.growBy]; omega
        | succ r => simp only [Builtin.growBy]; rw [if_pos (by omega)]; omega

theorem nextcap_le {need cap : Nat} (h : cap < need) : Builtin.nextslicecap need cap ≤ 2 * need + 192 := by
  unfold Builtin.nextslicecap
  split
  · omega
  · split
    · omega
    · have := growBy_le need 4 cap h
      omega

end Go.Proofs.Ytmlolnaannoifaa

/- Appending. -/
namespace Go.Proofs.Ytmlolnaannoifaa

/-- The cells of a row of elements, one behind the other. -/
def Flat (U : Addr → Prop) (w : World) (e : Kd) (A : Option Addr) (xs : List e.T) (l : List Value) : Prop :=
  l.length = xs.length * e.sz ∧ (∀ j, j < l.length → ∃ a, A = some a ∧ U (a.add j) ∧ w.cell? (a.add j) = l[j]?) ∧
  (∀ (i : Nat) (h : i < xs.length), CR U w e xs[i] ((l.drop (i * e.sz)).take e.sz)) ∧ ∀ v ∈ l, oneC v = true

theorem flat_take {U : Addr → Prop} {w : World} {e : Kd} {A : Option Addr} {xs : List e.T} (h : Elems U w e.sz A (CR U w e) xs) : ∀ n, n ≤ xs.length → ∃ l : List Value,
    l.length = n * e.sz ∧ (∀ j, j < l.length → ∃ a, A = some a ∧ U (a.add j) ∧ w.cell? (a.add j) = l[j]?) ∧
    (∀ (i : Nat) (_ : i < n) (h : i < xs.length), CR U w e xs[i] ((l.drop (i * e.sz)).take e.sz)) ∧ ∀ v ∈ l, oneC v = true
  | 0, _ => ⟨[], by simp, fun j hj => by simp at hj, fun i hi => by omega, fun v hv => by simp at hv⟩
  | n + 1, hn => by
    obtain ⟨l, h1, h2, h3, h4⟩ := flat_take h n (by omega)
    obtain ⟨a, r, hA, hl, hj, hR⟩ := h n (by omega)
    refine ⟨l ++ r, by rw [List.length_append, h1, hl, Nat.add_mul, Nat.one_mul], fun j hjl => ?_, fun i hi hx => ?_, fun v hv => ?_⟩
    · rw [List.length_append] at hjl
      by_cases hlt : j < l.length
      · rw [List.getElem?_append_left hlt]
        exact h2 j hlt
      · refine ⟨a, hA, ?_⟩
        have := hj (j - l.length) (by omega)
        rw [show n * e.sz + (j - l.length) = j by omega] at this
        rw [List.getElem?_append_right (by omega)]
        exact this
    · have hsz : (i + 1) * e.sz = i * e.sz + e.sz := by rw [Nat.add_mul, Nat.one_mul]
      by_cases hin : i < n
      · have hle : (i + 1) * e.sz ≤ n * e.sz := Nat.mul_le_mul_right _ hin
        rw [List.drop_append_of_le_length (by omega), List.take_append_of_le_length (by rw [List.length_drop]; omega)]
        exact h3 i hin hx
      · obtain rfl : i = n := by omega
        have : (l ++ r).drop (i * e.sz) = r := by rw [← h1, List.drop_left]
        rw [this, ← hl, List.take_length]
        exact hR
    · rcases List.mem_append.1 hv with hv | hv
      · exact h4 v hv
      · exact CR.oneC' hR v hv

theorem Elems.flat {U : Addr → Prop} {w : World} {e : Kd} {A : Option Addr} {xs : List e.T} (h : Elems U w e.sz A (CR U w e) xs) : ∃ l, Flat U w e A xs l := by
  obtain ⟨l, h1, h2, h3, h4⟩ := flat_take h xs.length (Nat.le_refl _)
  exact ⟨l, h1, h2, fun i hi => h3 i hi hi, h4⟩

theorem Flat.elems {U : Addr → Prop} {w : World} {e : Kd} {a : Addr} {xs : List e.T} {l : List Value} (h : Flat U w e (some a) xs l) : Elems U w e.sz (some a) (CR U w e) xs := by
  obtain ⟨h1, h2, h3, h4⟩ := h
  intro i hi
  have hle : (i + 1) * e.sz ≤ xs.length * e.sz := Nat.mul_le_mul_right _ hi
  rw [Nat.add_mul, Nat.one_mul] at hle
  refine ⟨a, (l.drop (i * e.sz)).take e.sz, rfl, by rw [List.length_take, List.length_drop]; omega, fun j hj => ?_, h3 i hi⟩
  obtain ⟨a', ha, hu, hc⟩ := h2 (i * e.sz + j) (by omega)
  obtain rfl := Option.some.inj ha
  refine ⟨hu, ?_⟩
  rw [hc, List.getElem?_take_of_lt hj, List.getElem?_drop]

theorem pieces_app {U : Addr → Prop} {w : World} {e : Kd} {xs ys : List e.T} {l r : List Value} (hl : l.length = xs.length * e.sz) (hr : r.length = ys.length * e.sz)
    (h : ∀ (i : Nat) (h : i < xs.length), CR U w e xs[i] ((l.drop (i * e.sz)).take e.sz)) (h' : ∀ (i : Nat) (h : i < ys.length), CR U w e ys[i] ((r.drop (i * e.sz)).take e.sz)) :
    ∀ (rest : List Value) (i : Nat) (h : i < (xs ++ ys).length), CR U w e (xs ++ ys)[i] (((l ++ r ++ rest).drop (i * e.sz)).take e.sz) := by
  intro rest i hi
  have hle : (i + 1) * e.sz ≤ (xs ++ ys).length * e.sz := Nat.mul_le_mul_right _ hi
  rw [List.length_append, Nat.add_mul, Nat.one_mul, Nat.add_mul] at hle
  rw [List.drop_append_of_le_length (by rw [List.length_append]; omega), List.take_append_of_le_length (by rw [List.length_drop, List.length_append]; omega)]
  by_cases hin : i < xs.length
  · have hle' : (i + 1) * e.sz ≤ xs.length * e.sz := Nat.mul_le_mul_right _ hin
    rw [Nat.add_mul, Nat.one_mul] at hle'
    rw [List.drop_append_of_le_length (by omega), List.take_append_of_le_length (by rw [List.length_drop]; omega), List.getElem_append_left hin]
    exact h i hin
  · rw [List.length_append] at hi
    have hge : xs.length * e.sz ≤ i * e.sz := Nat.mul_le_mul_right _ (by omega)
    rw [List.getElem_append_right (by omega), List.drop_append]
    rw [List.drop_eq_nil_of_le (by omega), List.nil_append, hl, ← Nat.sub_mul]
    exact h' (i - xs.length) (by omega)

theorem run_firstCells {P : Program} {w : World} {size n c len : Nat} {A : Option Addr} {l : List Value} (hl : l.length = n * size) (h : ∀ j, j < l.length → ∃ a, A = some a ∧ w.cell? (a.add j) = l[j]?) :
    (Builtin.firstCells size n (.slice A len c)).run P w = .ok l.toArray w := by
  cases A with
  | none =>
    have : l = [] := by
      cases l with
      | nil => rfl
      | cons v l => obtain ⟨a, ha, _⟩ := h 0 (by simp); cases ha
    subst this
    simp [Builtin.firstCells]
  | some a =>
    refine run_firstCells_some w size n a len c l hl (fun j v hj => ?_)
    have hlt : j < l.length := by
      rcases Nat.lt_or_ge j l.length with h' | h'
      · exact h'
      · rw [List.getElem?_eq_none h'] at hj; cases hj
    obtain ⟨a', ha, hc⟩ := h j hlt
    obtain rfl := Option.some.inj ha
    rw [hc, hj]

theorem drew_quiet (w : World) : Quiet w w.drew := ⟨rfl, rfl, rfl, rfl⟩

section
variable {C : Ctx} {m : Mem} {T : Types} {g : View} {c : Nat} {out : Out} {ρ : Operand → Value} {dst : Option Tmp} {type : TypeId} {pos : String} {after : Array Edge} {guard : Option (Nat × Bool)} {vs : List AV}

/-- A slice of the call's own, in a new block. -/
theorem own_alloc (hm : MemR C m) {e : Kd} {zs : List e.T} {ls rest : List Value} {id cap : Nat} {et : TypeId} (hcap : 0 < cap) (hle : zs.length ≤ cap) (hl : ls.length = zs.length * e.sz)
    (hr : rest.length = (cap - zs.length) * e.sz) (hp : ∀ (i : Nat) (h : i < zs.length), CR m.U m.w e zs[i] ((ls.drop (i * e.sz)).take e.sz)) (ho : ∀ v ∈ ls, oneC v = true)
    (hid : ∀ e', m.h id = some e' → ∃ xs, e' = .vec e xs ∧ xs.length < zs.length) {w' : World} (hw : w' = m.w.alloc (.cells (ls ++ rest).toArray et)) :
    ∃ U' pl', MemR C ⟨U', pl', updE m.h [(id, .vec e zs)], w'⟩ ∧
      Ext C m ⟨U', pl', updE m.h [(id, .vec e zs)], w'⟩ ∧ (pl' id).A = some ⟨m.w.heap.size, 0, none⟩ ∧ (pl' id).cap = cap := by
  subst hw
  obtain ⟨h1, h2⟩ := memR_alloc hm (o := .cells (ls ++ rest).toArray et) (U' := fun a => m.U a ∨ (a.spot = none ∧ a.block = m.w.heap.size ∧ a.off < zs.length * e.sz)) (fun _ h => .inl h)
    (fun a h => h.elim .inl fun h => .inr ⟨h.1, h.2.1⟩)
  have hsz := hm.post.size
  obtain ⟨h3, h4⟩ := memR_put h1 (c := id) (p := ⟨m.w.heap.size, some ⟨m.w.heap.size, 0, none⟩, cap⟩) (e := .vec e zs)
    (fun e' he' => by
      obtain ⟨xs, rfl, hlt⟩ := hid e' he'
      exact ⟨rfl, by omega, fun h => by omega⟩)
    (.inr ⟨hcap, rfl, hle, ⟨_, _, alloc_heap_new, by
        simp only [List.size_toArray, List.length_append, hl, hr, ← Nat.add_mul]
        congr 1; omega⟩, fun a ha => ⟨fun hu => by
        rcases hu with hu | hu
        · have := (hm.post.bound a hu).2
          simp only at ha
          omega
        · exact ⟨hu.1, hu.2.2⟩, fun hu => .inr ⟨hu.1, ha, hu.2⟩⟩, Flat.elems (l := ls) ⟨hl, fun j hj => ⟨_, rfl, (by rw [Addr.add_mk]; exact .inr ⟨rfl, rfl, by simpa [hl] using hj⟩), (by rw [Addr.add_mk, cell_blk alloc_heap_new]; simp [List.getElem?_append_left hj])⟩, fun i hi => h2.CR (hp i hi), ho⟩⟩)
    (fun g hg => by
      simp only [blkOf] at hg
      rw [if_neg (by omega)] at hg
      obtain rfl := Option.some.inj hg
      exact ⟨.inl hsz, fun id' e' _ h hb => by have := hm.blk_lt h hb; omega⟩)
  exact ⟨_, _, h3, h2.trans h4, by simp [updP], by simp [updP]⟩

theorem append_grow {et : TypeId} {te : TyI} (hT : TyRow C.P et te) (hm : MemR C m) {t : TypeId} {ts : Array TypeId} (ht0 : ts[0]? = some t) {t1 et1 : TypeId} (ht1 : ts[1]? = some t1) (hu0 : C.P.underlying t = some (.slice et)) (hu1 : C.P.underlying t1 = some (.slice et1))
    {A B : Option Addr} {xs ys : List te.kd.T} {cx cy id : Nat} (hb : te.bytes ≠ 0 ∧ te.bytes ≤ 100) (hx : Elems m.U m.w te.kd.sz A (CR m.U m.w te.kd) xs) (hy : Elems m.U m.w te.kd.sz B (CR m.U m.w te.kd) ys)
    (hlt : cx < xs.length + ys.length) (hxc : xs.length ≤ cx) (hsm : xs.length + ys.length ≤ 1099511627776) (hid : ∀ e', m.h id = some e' → ∃ xs', e' = .vec te.kd xs' ∧ xs'.length = xs.length) :
    ∃ v w', (Builtin.append_ ts type #[.slice A xs.length cx, .slice B ys.length cy]).run C.P m.w = .ok v w' ∧ After C m (.one (.osl te.kd id (xs ++ ys).length)) [(id, .vec te.kd (xs ++ ys))] v w' := by
  obtain ⟨i, zv, hi, hsz, hib, hzv, hz1, hz2, _⟩ := hT.run_info (w := m.w)
  obtain ⟨i', zv', hi', _, _, hzv', hz1', _, _⟩ := hT.run_info (w := m.w.drew)
  have hzs : zv'.cells.size = te.size := by have := hT.zlen; rw [← hz1'] at this; simpa using this
  obtain ⟨l, f1, f2, f3, f4⟩ := hx.flat
  obtain ⟨r, g1, g2, g3, g4⟩ := hy.flat
  have hkd := hT.szk
  obtain ⟨m1, m2⟩ := memR_quiet hm (drew_quiet m.w)
  have hge := grownCap_ge m.w (xs.length + ys.length) cx et
  obtain ⟨N, hN⟩ : ∃ N, N = grownCap m.w (xs.length + ys.length) cx et := ⟨_, rfl⟩
  rw [← hN] at hge
  have hsizes : (Builtin.zeroCells zv'.cells (N - (xs.length + ys.length))).size = (N - (xs.length + ys.length)) * te.kd.sz := by
    rw [size_zeroCells, hzs, hkd]
  obtain ⟨U', pl', h1, h2, h3, h4⟩ := own_alloc m1 (e := te.kd) (zs := xs ++ ys) (ls := l ++ r) (rest := (Builtin.zeroCells zv'.cells (N - (xs.length + ys.length))).toList) (id := id) (cap := N) (et := et)
    (by omega) (by rw [List.length_append]; exact hge) (by rw [List.length_append, List.length_append, f1, g1, Nat.add_mul])
    (by rw [List.length_append, Array.length_toList, hsizes])
    (fun i hi => by
      have := pieces_app f1 g1 f3 g3 [] i hi
      rw [List.append_nil] at this
      exact m2.CR this)
    (fun v hv => by
      rcases List.mem_append.1 hv with hv | hv
      · exact f4 v hv
      · exact g4 v hv)
    (fun e' he' => by
      obtain ⟨xs', h, hl⟩ := hid e' he'
      refine ⟨xs', h, ?_⟩
      rw [List.length_append]; omega) rfl
  refine ⟨.slice (some ⟨m.w.heap.size, 0, none⟩) (xs.length + ys.length) N, _, ?_, U', pl', h1, m2.trans h2, rfl, _, _, by rw [List.length_append]; rfl, te.kd, xs ++ ys, .inl ⟨by simp [updE, get1], Nat.le_refl _, fun _ => ⟨h3.symm, h4.symm⟩⟩⟩
  have hcap := nextcap_le hlt
  have hnb : ¬ (Builtin.nextslicecap (xs.length + ys.length) cx * te.bytes > 2 ^ 48) := by
    have h1 : Builtin.nextslicecap (xs.length + ys.length) cx * te.bytes ≤ (2 * 1099511627776 + 192) * 100 := Nat.mul_le_mul (by omega) hb.2
    omega
  have hfo := run_firstCells (P := C.P) (w := m.w.drew) (n := xs.length) (size := te.size) (c := cx) (len := xs.length) (A := A) (l := l) (by rw [f1, hkd]) (fun j hj => by
    obtain ⟨a, q1, _, q3⟩ := f2 j hj
    exact ⟨a, q1, q3⟩)
  have hfn := run_firstCells (P := C.P) (w := m.w.drew) (n := ys.length) (size := te.size) (c := cy) (len := ys.length) (A := B) (l := r) (by rw [g1, hkd]) (fun j hj => by
    obtain ⟨a, q1, _, q3⟩ := g2 j hj
    exact ⟨a, q1, q3⟩)
  have hneed : ¬ (xs.length + ys.length ≤ cx) := by omega
  have h63 : ¬ ((9223372036854775807 : Int) < ((xs.length : Int) + (ys.length : Int))) := by omega
  have hnb' : ¬ (281474976710656 < Builtin.nextslicecap (xs.length + ys.length) cx * i.bytes) := by rw [hib]; omega
  simp [Builtin.append_, ht0, ht1, run_underlying hu0, run_underlying hu1, hsz, hi, Builtin.lenOf, hneed, h63, hnb', Question.forced, newRow]
  rw [hi', Result.andThen_ok, hfo, Result.andThen_ok, hfn, Result.andThen_ok, hzv', Result.andThen_ok]
  rw [show (Question.appendCap (xs.length + ys.length) cx et).cut (m.w.tape m.w.drawn (Question.appendCap (xs.length + ys.length) cx et)) = N from hN.symm]
  congr 3
  apply Array.ext'
  simp

theorem append_room {et : TypeId} {te : TyI} (hT : TyRow C.P et te) (hm : MemR C m) {t : TypeId} {ts : Array TypeId} (ht0 : ts[0]? = some t) {t1 et1 : TypeId} (ht1 : ts[1]? = some t1) (hu0 : C.P.underlying t = some (.slice et)) (hu1 : C.P.underlying t1 = some (.slice et1))
    {B : Option Addr} {xs ys : List te.kd.T} {cy id : Nat} (hid : m.h id = some (.vec te.kd xs)) (ho : OwnAt m.U m.w te.kd xs (m.pl id).A (m.pl id).cap (m.pl id).g) (hy : Elems m.U m.w te.kd.sz B (CR m.U m.w te.kd) ys)
    (hle : xs.length + ys.length ≤ (m.pl id).cap) :
    ∃ v w', (Builtin.append_ ts type #[.slice (m.pl id).A xs.length (m.pl id).cap, .slice B ys.length cy]).run C.P m.w = .ok v w' ∧ After C m (.one (.osl te.kd id (xs ++ ys).length)) [(id, .vec te.kd (xs ++ ys))] v w' := by
  obtain ⟨r, g1, g2, g3, g4⟩ := hy.flat
  have hkd := hT.szk
  have hsz := hT.run_size (w := m.w)
  have hfn := run_firstCells (P := C.P) (w := m.w) (n := ys.length) (size := te.size) (c := cy) (len := ys.length) (A := B) (l := r) (by rw [g1, hkd]) (fun j hj => by
    obtain ⟨a, q1, _, q3⟩ := g2 j hj
    exact ⟨a, q1, q3⟩)
  rcases ho with ⟨hc0, rfl⟩ | ⟨hc, hA, _, ⟨cs, ty, hh, hcs⟩, hU, hE⟩
  · have hy0 : ys = [] := List.length_eq_zero_iff.1 (by rw [hc0] at hle; simpa using hle)
    subst hy0
    have hr0 : r = [] := List.length_eq_zero_iff.1 (by rw [g1]; simp)
    subst hr0
    obtain ⟨h1, h2⟩ := memR_put hm (c := id) (p := m.pl id) (e := .vec te.kd []) (fun e' he' => by
      rw [hid] at he'
      obtain rfl := Option.some.inj he'
      exact EntExt.refl _ _) (.inl ⟨hc0, rfl⟩) (fun g hg => by simp [blkOf, hc0] at hg)
    refine ⟨.slice (m.pl id).A 0 (m.pl id).cap, m.w, ?_, m.U, _, h1, h2, rfl, _, _, rfl, te.kd, [], .inl ⟨by simp [updE, get1], Nat.le_refl _, fun _ => by simp [updP]⟩⟩
    rw [hc0]
    cases hA : (m.pl id).A <;> simp [Builtin.append_, ht0, ht1, run_underlying hu0, run_underlying hu1, hsz, Builtin.lenOf, storeCells] at hfn ⊢
    all_goals rw [hfn]; simp [storeCells]
  · obtain ⟨l, f1, f2, f3, f4⟩ := hE.flat
    have hlen : (xs ++ ys).length = xs.length + ys.length := List.length_append
    have hfit : xs.length * te.kd.sz + r.length ≤ cs.size := by
      rw [hcs, g1, ← Nat.add_mul]
      exact Nat.mul_le_mul_right _ hle
    have hset : ∀ o, (putA cs (xs.length * te.kd.sz) r)[o]? = if xs.length * te.kd.sz ≤ o ∧ o < xs.length * te.kd.sz + r.length then r[o - xs.length * te.kd.sz]? else cs[o]? := fun o => putA_get r cs _ o hfit
    have hlt := lt_of_heap hh
    obtain ⟨h1, h2⟩ := memR_set hm (id := id) (g := (m.pl id).g) (e := .vec te.kd xs) (e' := .vec te.kd (xs ++ ys)) (o := .cells (putA cs (xs.length * te.kd.sz) r) ty)
      (U' := fun a => m.U a ∨ (a.spot = none ∧ a.block = (m.pl id).g ∧ a.off < (xs.length + ys.length) * te.kd.sz)) (p := m.pl id) hid (by simp [blkOf]; omega) (fun _ h => .inl h) (fun a h => h.elim .inl fun h => .inr ⟨h.1, h.2.1⟩)
      (fun a hu hg => by
        obtain ⟨q1, q2⟩ := (hU a hg).1 hu
        obtain ⟨b, o, sp⟩ := a
        simp only at q1 q2 hg
        subst q1; subst hg
        rw [cell_blk (setBlk_same hlt), cell_blk hh, hset, if_neg (by omega)])
      ⟨rfl, by rw [hlen]; omega, fun _ => ⟨rfl, rfl⟩⟩ (by simp [blkOf]; omega)
      (fun hx => by
        refine .inr ⟨hc, hA, by rw [hlen]; exact hle, ⟨_, ty, setBlk_same hlt, by rw [putA_size, hcs]⟩, fun a ha => ⟨fun hu => ?_, fun hu => .inr ⟨hu.1, ha, by rw [← hlen]; exact hu.2⟩⟩, ?_⟩
        · rcases hu with hu | hu
          · obtain ⟨q1, q2⟩ := (hU a ha).1 hu
            have : xs.length * te.kd.sz ≤ (xs ++ ys).length * te.kd.sz := Nat.mul_le_mul_right _ (by rw [hlen]; omega)
            exact ⟨q1, by omega⟩
          · exact ⟨hu.1, by rw [hlen]; exact hu.2.2⟩
        · rw [hA]
          refine Flat.elems (l := l ++ r) ⟨by rw [List.length_append, f1, g1, hlen, Nat.add_mul], fun j hj => ⟨_, rfl, ?_, ?_⟩, fun i hi => ?_, fun v hv => ?_⟩
          · rw [Addr.add_mk]
            rw [List.length_append, f1, g1, ← Nat.add_mul] at hj
            exact .inr ⟨rfl, rfl, by simpa using hj⟩
          · rw [Addr.add_mk, cell_blk (setBlk_same hlt), hset, Nat.zero_add]
            rw [List.length_append] at hj
            by_cases hjl : j < l.length
            · rw [if_neg (by omega), List.getElem?_append_left hjl]
              obtain ⟨a, q1, _, q3⟩ := f2 j hjl
              rw [hA] at q1
              obtain rfl := Option.some.inj q1
              rw [Addr.add_mk, cell_blk hh, Nat.zero_add] at q3
              exact q3
            · rw [if_pos (by omega), List.getElem?_append_right (by omega), f1]
          · have := pieces_app f1 g1 f3 g3 [] i hi
            rw [List.append_nil] at this
            exact hx.CR this
          · rcases List.mem_append.1 hv with hv | hv
            · exact f4 v hv
            · exact g4 v hv)
    have hrun := run_storeCells (P := C.P) r m.w (m.pl id).g (xs.length * te.kd.sz) 0 cs ty hh (by omega) g4
    have hww : (if r = [] then m.w else setBlk m.w (m.pl id).g (.cells (putA cs (xs.length * te.kd.sz + 0) r) ty)) = setBlk m.w (m.pl id).g (.cells (putA cs (xs.length * te.kd.sz) r) ty) := by
      by_cases hr : r = []
      · rw [if_pos hr, hr]
        simp only [putA, setBlk]
        have : m.w.heap.setIfInBounds (m.pl id).g (.cells cs ty) = m.w.heap := by
          apply Array.ext
          · simp
          · intro i h1 h2
            rw [Array.getElem_setIfInBounds]
            split
            · rename_i e
              have := hh
              rw [e, Array.getElem?_eq_getElem h2] at this
              exact (Option.some.inj this).symm
            · rfl
        rw [this]
      · rw [if_neg hr, Nat.add_zero]
    rw [hww] at hrun
    refine ⟨.slice (m.pl id).A (xs.length + ys.length) (m.pl id).cap, _, ?_, _, _, h1, h2, rfl, _, _, by rw [hlen], te.kd, xs ++ ys, .inl ⟨by simp [updE, get1], Nat.le_refl _, fun _ => by simp [updP]⟩⟩
    rw [hA]
    simp [Builtin.append_, ht0, ht1, run_underlying hu0, run_underlying hu1, hsz, Builtin.lenOf, hle, hfn, Addr.add_mk]
    rw [hkd] at hrun
    rw [hrun, hkd]
    rfl

theorem core_append (hT : TyOK C.P T) {ts : Array TypeId} {args : Array Operand} (hm : MemR C m) (hg : ViewOK g m.h) (hvs : VRs C m vs (args.toList.map ρ)) (h : coreAppend T ts g c vs = some out) (hp : ∀ p ∈ out.ps, p) (hn : ∀ p ∈ out.news, m.h p.1 = none) :
    ExecOK C.P ρ ⟨dst, .call ⟨.builtin .append, args, ts⟩, type, pos, after, guard⟩ m.w (After C m out.av (out.sets ++ out.news)) := by
  unfold coreAppend at h
  split at h
  · rename_i a b
    split at h
    · rename_i te td tx hte htd htx
      obtain ⟨t, ht0, hte⟩ := Option.bind_eq_some_iff.1 hte
      obtain ⟨t', ht0', htd⟩ := Option.bind_eq_some_iff.1 htd
      rw [ht0] at ht0'
      obtain rfl := Option.some.inj ht0'
      obtain ⟨t1, ht1, htx⟩ := Option.bind_eq_some_iff.1 htx
      split at h
      · rename_i e0 e1 h0 h1
        obtain ⟨et, _, hu0, hr⟩ := elemTy_sound (m := m) hT hte
        obtain ⟨d1, _, hu1, hd1⟩ := (hT t1 tx htx).run_und (w := m.w)
        obtain rfl := td_slice (hd1.trans h1)
        have hargs : ∃ x y, args = #[x, y] := by
          have := hvs.length
          simp at this
          match args, this with
          | ⟨[x, y]⟩, _ => exact ⟨x, y, rfl⟩
        obtain ⟨x, y, rfl⟩ := hargs
        have fin : ∀ {av l}, (∃ v w', (Builtin.append_ ts type #[ρ x, ρ y]).run C.P m.w = .ok v w' ∧ After C m av l v w') → ExecOK C.P ρ ⟨dst, .call ⟨.builtin .append, #[x, y], ts⟩, type, pos, after, guard⟩ m.w (After C m av l) := by
          rintro av l ⟨v, w', h1, h2⟩
          have e : (execOp ρ ⟨dst, .call ⟨.builtin .append, #[x, y], ts⟩, type, pos, after, guard⟩).run C.P m.w = .ok (.value v) w' := by
            simp only [execOp, resolve, Sem.run_bind, Sem.run_pure, Result.andThen_ok, invoke, builtin]
            have : (#[x, y].map ρ) = #[ρ x, ρ y] := by simp
            rw [this, h1]; rfl
          unfold ExecOK
          rw [e]
          exact h2
        unfold appendAV at h
        split at h
        · cases h
        · rename_i hby
          have hb : te.bytes ≠ 0 ∧ te.bytes ≤ 100 := by omega
          split at h
          · rename_i qs ys hys
            have hbne : b ≠ .any := fun e => by subst e; simp [slOf] at hys
            have hyv := (avr_one hvs.2.1 hbne).2
            split at h
            · rename_i e id n
              have hxv := (avr_one hvs.1 (by simp)).2
              split at h
              · rename_i e' xs' hid
                split at h
                · rename_i xs hc
                  split at h
                  · rename_i he
                    obtain rfl := Option.some.inj h
                    obtain ⟨B, cy, hv, hyc, hy⟩ := slOf_sound hm hg hys (fun p hpp => hp p (by simp [hpp])) hyv
                    simp only [List.cons.injEq, and_true] at hv
                    obtain ⟨q, rfl⟩ := cast_sl hc
                    subst q
                    have hn1 : n = xs'.length := hp _ (by simp)
                    have hn2 : xs'.length + ys.length ≤ 1099511627776 := hp _ (by simp)
                    obtain ⟨hv0, ho⟩ := osl_own hm hxv (hg _ _ hid) hn1
                    have hxe : Elems m.U m.w te.kd.sz (m.pl id).A (CR m.U m.w te.kd) xs' ∧ xs'.length ≤ (m.pl id).cap := by
                      obtain ⟨A', c', q1, q2, q3⟩ := ho.cr
                      simp only [List.cons.injEq, Value.slice.injEq, and_true, true_and] at q1
                      obtain ⟨rfl, rfl⟩ := q1
                      exact ⟨q3, q2⟩
                    refine fin ?_
                    rw [hv0, hv]
                    rcases Nat.lt_or_ge (m.pl id).cap (xs'.length + ys.length) with hlt | hge
                    · exact append_grow hr hm ht0 ht1 hu0 hu1 hb hxe.1 hy hlt hxe.2 hn2 (fun e' he' => by
                        rw [hg _ _ hid] at he'
                        obtain rfl := Option.some.inj he'
                        exact ⟨_, rfl, rfl⟩)
                    · exact append_room hr hm ht0 ht1 hu0 hu1 (hg _ _ hid) ho hy hge
                  · cases h
                · cases h
              · cases h
            · obtain rfl := Option.some.inj h
              obtain ⟨B, cy, hv, hyc, hy⟩ := slOf_sound hm hg hys (fun p hpp => hp p (by simp [hpp])) hyv
              simp only [List.cons.injEq, and_true] at hv
              have hn2 : ys.length ≤ 1099511627776 := hp _ (by simp)
              obtain ⟨A, hv0⟩ := (avr_one hvs.1 (by simp)).2
              have hnc : m.h c = none := hn _ (List.mem_singleton.2 rfl)
              refine fin ?_
              rw [hv0, hv]
              by_cases h0 : ys = []
              · subst h0
                obtain ⟨h1, h2⟩ := memR_put hm (c := c) (p := ⟨0, A, 0⟩) (e := .vec te.kd []) (fun e' he' => by rw [hnc] at he'; cases he') (.inl ⟨rfl, rfl⟩) (fun g hg => by simp [blkOf] at hg)
                have hsz := hr.run_size (w := m.w)
                have hfn := run_firstCells (P := C.P) (w := m.w) (n := 0) (size := te.size) (c := cy) (len := 0) (A := B) (l := []) (by simp) (fun j hj => by simp at hj)
                refine ⟨.slice A 0 0, m.w, ?_, _, _, h1, h2, rfl, _, _, rfl, te.kd, [], .inl ⟨by simp [updE, get1], Nat.le_refl _, fun _ => by simp [updP]⟩⟩
                cases hA : A <;> simp [Builtin.append_, ht0, ht1, run_underlying hu0, run_underlying hu1, hsz, Builtin.lenOf, storeCells] at hfn ⊢
                all_goals rw [hfn]; simp [storeCells]
              · have hpos : 0 < ys.length := List.length_pos_iff.2 h0
                have := append_grow (xs := []) (A := A) (cx := 0) (id := c) hr hm ht0 ht1 hu0 hu1 hb (fun i hi => by simp at hi) hy (by simpa using hpos) (by simp) (by simpa using hn2) (fun e' he' => by rw [hnc] at he'; cases he') (type := type) (cy := cy)
                simpa using this
            · cases h
          · cases h
      · cases h
    · cases h
  · cases h
end
end Go.Proofs.Ytmlolnaannoifaa

/- Calls: what is handed over. -/
namespace Go.Proofs.Ytmlolnaannoifaa

section
variable {C : Ctx} {m : Mem} {T : Types} {g : View} {c : Nat} {out : Out} {ρ : Operand → Value} {dst : Option Tmp} {type : TypeId} {pos : String} {after : Array Edge} {guard : Option (Nat × Bool)} {vs : List AV}

theorem core_conv (hT : TyOK C.P T) {s d : TypeId} {x : Operand} (hm : MemR C m) (hg : ViewOK g m.h) (hvs : VRs C m vs [ρ x]) (h : coreConv T s d g vs = some out) (hp : ∀ p ∈ out.ps, p) :
    ExecOK C.P ρ ⟨dst, .convert s d x, type, pos, after, guard⟩ m.w (After C m out.av (out.sets ++ out.news)) := by
  obtain ⟨a, rfl, ha⟩ := vrs1 hvs
  unfold coreConv at h
  split at h
  · rename_i a' heq
    simp only [List.cons.injEq, and_true] at heq
    subst heq
    have hne : a' ≠ .any := fun e => by
      subst e
      unfold convAV at h
      split at h
      · split at h
        · contradiction
        · contradiction
        · contradiction
        · contradiction
        · contradiction
        · split at h
          · split at h
            · split at h
              · simp [slOf] at h
              · cases h
            · cases h
          · cases h
        · cases h
      · cases h
    obtain ⟨h1, h2, h3⟩ := convAV_sound hT hm hg h hp (avr_one ha hne).2
    rw [h1, h2]
    exact exec_q (e := convert s d (ρ x)) hm rfl h3
  · cases h
end

/- data that are handed over -/
def blkL (m : Mem) (id : Nat) : List Nat :=
  match m.h id with
  | some e => (blkOf (m.pl id) e).toList
  | none => []

theorem TR.cr {U : Addr → Prop} {w : World} : ∀ {k : Kd} {x : k.T} {l : List Value} {bs : List Nat}, TR U w k x l bs → CR U w k x l
  | .own e, x, l, bs, h => by
    obtain ⟨A, c, g, rfl, ho, _⟩ := h
    exact ho.cr
  | .pair a b, x, l, bs, h => by
    obtain ⟨l1, l2, b1, b2, rfl, rfl, h1, h2⟩ := h
    exact ⟨l1, l2, rfl, h1.cr, h2.cr⟩
  | .unit, _, _, _, h => h.1
  | .bool, _, _, _, h => h.1
  | .int _, _, _, _, h => h.1
  | .flt _, _, _, _, h => h.1
  | .str, _, _, _, h => h.1
  | .sl _, _, _, _, h => h.1

theorem TR.of_pure {U : Addr → Prop} {w : World} : ∀ {k : Kd} {x : k.T} {l : List Value}, k.pure = true → CR U w k x l → TR U w k x l []
  | .own e, x, l, hp, h => by simp [Kd.pure] at hp
  | .pair a b, x, l, hp, h => by
    simp only [Kd.pure, Bool.and_eq_true] at hp
    obtain ⟨l1, l2, rfl, h1, h2⟩ := h
    exact ⟨l1, l2, [], [], rfl, rfl, TR.of_pure hp.1 h1, TR.of_pure hp.2 h2⟩
  | .unit, _, _, _, h => ⟨h, rfl⟩
  | .bool, _, _, _, h => ⟨h, rfl⟩
  | .int _, _, _, _, h => ⟨h, rfl⟩
  | .flt _, _, _, _, h => ⟨h, rfl⟩
  | .str, _, _, _, h => ⟨h, rfl⟩
  | .sl _, _, _, _, h => ⟨h, rfl⟩

theorem TR.pure_nil {U : Addr → Prop} {w : World} : ∀ {k : Kd} {x : k.T} {l : List Value} {bs : List Nat}, k.pure = true → TR U w k x l bs → bs = []
  | .own e, x, l, bs, hp, h => by simp [Kd.pure] at hp
  | .pair a b, x, l, bs, hp, h => by
    simp only [Kd.pure, Bool.and_eq_true] at hp
    obtain ⟨l1, l2, b1, b2, rfl, rfl, h1, h2⟩ := h
    rw [TR.pure_nil hp.1 h1, TR.pure_nil hp.2 h2]; rfl
  | .unit, _, _, _, _, h => h.2
  | .bool, _, _, _, _, h => h.2
  | .int _, _, _, _, _, h => h.2
  | .flt _, _, _, _, _, h => h.2
  | .str, _, _, _, _, h => h.2
  | .sl _, _, _, _, _, h => h.2

theorem ownOf_TR {C : Ctx} {m : Mem} (hm : MemR C m) {g : View} (hg : ViewOK g m.h) {e : Kd} {a : AV1} {ps : List Prop} {x : List e.T} {v : Value} {l : List AV1}
    (h : ownOf e a g = some (ps, x)) (hp : ∀ p ∈ ps, p) (ha : AVR1 C m a v) : TR m.U m.w (.own e) x [v] ((ownIds (.own e) (a :: l)).1.flatMap (blkL m)) ∧ (ownIds (.own e) (a :: l)).2 = l := by
  unfold ownOf at h
  split at h
  · rename_i e0 id n
    split at h
    · rename_i e' xs hid
      cases hc : Kd.cast (.sl e') (.sl e) xs with
      | none => rw [hc] at h; cases h
      | some y =>
        rw [hc] at h
        simp only [Option.map_some, Option.some.injEq, Prod.mk.injEq] at h
        obtain ⟨rfl, rfl⟩ := h
        obtain ⟨q, rfl⟩ := cast_sl hc
        subst q
        have hn : n = xs.length := hp _ (by simp)
        obtain ⟨hv, ho⟩ := osl_own hm ha (hg _ _ hid) hn
        refine ⟨⟨_, _, _, by rw [hv], ho, ?_⟩, rfl⟩
        simp only [ownIds, List.flatMap_cons, List.flatMap_nil, List.append_nil, blkL, hg _ _ hid, blkOf]
        split <;> rfl
    · cases h
  · simp only [Option.some.injEq, Prod.mk.injEq] at h
    obtain ⟨_, rfl⟩ := h
    obtain ⟨A, rfl⟩ := ha
    exact ⟨⟨A, 0, 0, rfl, .inl ⟨rfl, rfl⟩, rfl⟩, rfl⟩
  · cases h

theorem ofCells_TR {C : Ctx} {m : Mem} (hm : MemR C m) {g : View} (hg : ViewOK g m.h) :
    ∀ {k : Kd} {l : List AV1} {ps : List Prop} {x : k.T} {l' : List AV1} {vs : List Value}, ofCells k l g = some (ps, x, l') → (∀ p ∈ ps, p) → CLs C m l vs →
      ∃ v1 v2, vs = v1 ++ v2 ∧ TR m.U m.w k x v1 ((ownIds k l).1.flatMap (blkL m)) ∧ CLs C m l' v2 ∧ (ownIds k l).2 = l'
  | .unit, l, ps, x, l', vs, h, _, hc => by
    simp only [ofCells, Option.some.injEq, Prod.mk.injEq] at h
    obtain ⟨rfl, _, rfl⟩ := h
    exact ⟨[], vs, rfl, ⟨rfl, rfl⟩, hc, rfl⟩
  | .pair a b, l, ps, x, l', vs, h, hp, hc => by
    simp only [ofCells] at h
    split at h
    · rename_i p xa la ha
      split at h
      · rename_i q xb lb hb
        simp only [Option.some.injEq, Prod.mk.injEq] at h
        obtain ⟨rfl, rfl, rfl⟩ := h
        obtain ⟨v1, v2, rfl, h1, h2, h3⟩ := ofCells_TR hm hg ha (fun r hr => hp r (List.mem_append.2 (.inl hr))) hc
        obtain ⟨v3, v4, rfl, h4, h5, h6⟩ := ofCells_TR hm hg hb (fun r hr => hp r (List.mem_append.2 (.inr hr))) h2
        refine ⟨v1 ++ v3, v4, by simp, ⟨v1, v3, _, _, rfl, ?_, h1, h4⟩, h5, ?_⟩
        · simp only [ownIds, h3, List.flatMap_append]
        · simp only [ownIds, h3, h6]
      · cases h
    · cases h
  | .sl e, [], ps, x, l', vs, h, hp, hc => by simp [ofCells] at h
  | .sl e, a :: l, ps, x, l', vs, h, hp, hc => by
    simp only [ofCells] at h
    obtain ⟨h', rfl⟩ := map3_some h
    match vs, hc with
    | v :: vs, hc => exact ⟨[v], vs, rfl, ⟨slOf_sound hm hg h' hp hc.1.2, rfl⟩, hc.2, rfl⟩
  | .own e, [], ps, x, l', vs, h, hp, hc => by simp [ofCells] at h
  | .own e, a :: l, ps, x, l', vs, h, hp, hc => by
    simp only [ofCells] at h
    obtain ⟨h', rfl⟩ := map3_some h
    match vs, hc with
    | v :: vs, hc =>
      obtain ⟨h1, h2⟩ := ownOf_TR hm hg (l := l) h' hp hc.1.2
      exact ⟨[v], vs, rfl, h1, hc.2, h2⟩
  | .bool, [], ps, x, l', vs, h, hp, hc => by simp [ofCells] at h
  | .bool, a :: l, ps, x, l', vs, h, hp, hc => by
    simp only [ofCells] at h
    obtain ⟨h', rfl⟩ := map3_some h
    match vs, hc with
    | v :: vs, hc => exact ⟨[v], vs, rfl, ⟨scOf_sound h' hc.1.2, rfl⟩, hc.2, rfl⟩
  | .int k, [], ps, x, l', vs, h, hp, hc => by simp [ofCells] at h
  | .int k, a :: l, ps, x, l', vs, h, hp, hc => by
    simp only [ofCells] at h
    obtain ⟨h', rfl⟩ := map3_some h
    match vs, hc with
    | v :: vs, hc => exact ⟨[v], vs, rfl, ⟨scOf_sound h' hc.1.2, rfl⟩, hc.2, rfl⟩
  | .flt k, [], ps, x, l', vs, h, hp, hc => by simp [ofCells] at h
  | .flt k, a :: l, ps, x, l', vs, h, hp, hc => by
    simp only [ofCells] at h
    obtain ⟨h', rfl⟩ := map3_some h
    match vs, hc with
    | v :: vs, hc => exact ⟨[v], vs, rfl, ⟨scOf_sound h' hc.1.2, rfl⟩, hc.2, rfl⟩
  | .str, [], ps, x, l', vs, h, hp, hc => by simp [ofCells] at h
  | .str, a :: l, ps, x, l', vs, h, hp, hc => by
    simp only [ofCells] at h
    obtain ⟨h', rfl⟩ := map3_some h
    match vs, hc with
    | v :: vs, hc => exact ⟨[v], vs, rfl, ⟨scOf_sound h' hc.1.2, rfl⟩, hc.2, rfl⟩

theorem ofCellsAll_TR {C : Ctx} {m : Mem} (hm : MemR C m) {g : View} (hg : ViewOK g m.h) {k : Kd} {l : List AV1} {ps : List Prop} {x : k.T} {vs : List Value}
    (h : ofCellsAll k l g = some (ps, x)) (hp : ∀ p ∈ ps, p) (hc : CLs C m l vs) : TR m.U m.w k x vs ((ownIds k l).1.flatMap (blkL m)) := by
  unfold ofCellsAll at h
  split at h
  · rename_i p y hy
    simp only [Option.some.injEq, Prod.mk.injEq] at h
    obtain ⟨rfl, rfl⟩ := h
    obtain ⟨v1, v2, rfl, h1, h2, _⟩ := ofCells_TR hm hg hy hp hc
    match v2, h2 with
    | [], _ => simpa using h1
  · cases h

theorem FnRel.lift {P : Program} {io io1 : List Nat} {U0 U1 : Addr → Prop} {w0 w1 : World} {fn : FuncId} {cap : Array Value} {a r : Kd} {p : a.T → r.T}
    (h : FnRel P io U0 w0 fn cap a r p) (hp : Post io U0 w0 U1 w1) (hio : ∀ g ∈ io1, w0.heap.size ≤ g ∨ g ∈ io) : FnRel P io1 U1 w1 fn cap a r p :=
  fun U w hP x v hx => h U w (hp.step hP hio) x v hx

section
variable {C : Ctx} {m : Mem} {g : View} {E : Env} {io : List Nat}

theorem box_at (hm : MemR C m) {id : Nat} {cells : List AV1} (h : m.h id = some (.box cells)) :
    ∃ cs ty, m.w.heap[(m.pl id).g]? = some (.cells cs ty (0, 0)) ∧ CLs C m cells cs.toList ∧ (∀ a : Addr, a.block = (m.pl id).g → ¬ m.U a) := hm.ents id _ h

theorem getCaps_sound (hm : MemR C m) (hg : ViewOK g m.h) : ∀ {ps : List PK} {caps : List Nat} {qs : List Prop} {y : PsT ps}, getCaps ps (capAVs caps) g = some (qs, y) → (∀ p ∈ qs, p) →
    (∀ id ∈ caps, ∀ b ∈ blkL m id, b ∉ io) → ∀ U w, Post io m.U m.w U w → ArgsR C.P [] U w ps y (caps.map fun id => Value.pointer (some ⟨(m.pl id).g, 0, none⟩)) []
  | [], [], qs, y, h, _, _, U, w, _ => ⟨rfl, rfl⟩
  | [], _ :: _, qs, y, h, _, _, U, w, _ => by simp [capAVs, getCaps] at h
  | _ :: _, [], qs, y, h, _, _, U, w, _ => by simp [capAVs, getCaps] at h
  | p :: ps, id :: caps, qs, y, h, hq, hro, U, w, hP => by
    simp only [capAVs, List.map_cons, getCaps] at h
    split at h
    · rename_i q1 x1 h1
      split at h
      · rename_i q2 x2 h2
        simp only [Option.some.injEq, Prod.mk.injEq] at h
        obtain ⟨rfl, rfl⟩ := h
        have ih := getCaps_sound hm hg h2 (fun r hr => hq r (List.mem_append.2 (.inr hr))) (fun id hid => hro id (by simp [hid])) U w hP
        refine ⟨_, _, [], [], rfl, rfl, ?_, ih⟩
        cases p with
        | ro k =>
          simp only [getCap] at h1
          split at h1
          · rename_i cells hid
            obtain ⟨cs, ty, hh, hc, _⟩ := box_at hm (hg _ _ hid)
            have hcr := ofCellsAll_sound hm hg h1 (fun r hr => hq r (List.mem_append.2 (.inl hr))) hc
            have hlt := lt_of_heap hh
            have hnio : (m.pl id).g ∉ io := hro id (by simp) _ (by simp [blkL, hg _ _ hid, blkOf])
            refine ⟨rfl, _, cs.toList, rfl, CR.mono hP.sub hP.same hcr, fun j hj => ⟨.inr ⟨Nat.lt_of_lt_of_le hlt hP.size, by simp⟩, ?_⟩⟩
            rw [Addr.add_mk, cell_of_heap (hP.frame _ hlt hnio), cell_blk hh]
            simp
          · cases h1
        | val _ => simp [getCap] at h1
        | st _ => simp [getCap] at h1
        | box _ => simp [getCap] at h1
        | fnp _ _ => simp [getCap] at h1
      · cases h
    · cases h

theorem cloFn_sound (hE : EnvOK C.P E) (hm : MemR C m) (hg : ViewOK g m.h) {f : FuncId} {fs : FSpec} {caps : List Nat} {a r : Kd} {qs : List Prop} {p : a.T → r.T} (hf : E f = some fs)
    (h : cloFn fs a r (capAVs caps) g = some (qs, p)) (hq : ∀ q ∈ qs, q) (hro : ∀ id ∈ caps, ∀ b ∈ blkL m id, b ∉ io) :
    FnRel C.P io m.U m.w f (caps.map fun id => Value.pointer (some ⟨(m.pl id).g, 0, none⟩)).toArray a r p := by
  unfold cloFn at h
  split at h
  · rename_i a' ps r' pre fn
    split at h
    · rename_i q1 y h1
      split at h
      · rename_i heq
        split at h
        · cases h
        · rename_i hcond
          obtain ⟨rfl, rfl⟩ := heq
          simp only [Option.some.injEq, Prod.mk.injEq] at h
          obtain ⟨rfl, rfl⟩ := h
          have hc : (a.pure = true ∧ a.one = true) ∧ r'.one = true := by simpa using hcond
          have hpre : ∀ x : a.T, ∀ p ∈ pre (x, y), p := hq _ (by simp)
          intro U w hP x v hx
          have hargs := getCaps_sound hm hg h1 (fun r hr => hq r (List.mem_append.2 (.inl hr))) hro U w hP
          have hv1 : oneC v = true := CR.oneC' hx v (by simp)
          have hs := hE f _ hf U w (v :: caps.map fun id => Value.pointer (some ⟨(m.pl id).g, 0, none⟩)) (x, y) [] hP.bound
            ⟨v, _, [], [], rfl, rfl, ⟨hv1, TR.of_pure hc.1.1 hx⟩, hargs⟩ List.nodup_nil (hpre x)
          have hvs : (v :: caps.map fun id => Value.pointer (some ⟨(m.pl id).g, 0, none⟩)).toArray = #[v] ++ (caps.map fun id => Value.pointer (some ⟨(m.pl id).g, 0, none⟩)).toArray := by
            apply Array.ext'; simp
          rw [hvs] at hs
          have mono : ∀ {R R' : Value → World → Prop} {vs : Array Value}, (∀ v w, R v w → R' v w) → CallOK C.P f vs w R → CallOK C.P f vs w R' := by
            intro R R' vs hRR hcall
            unfold CallOK at hcall ⊢
            split at hcall
            · exact hRR _ _ hcall
            · exact Calls.mono hcall (fun e w'' ⟨v, h1, h2⟩ => ⟨v, h1, hRR _ _ h2⟩)
            · exact hcall.elim
          refine mono ?_ hs
          rintro v' w' ⟨U', rvs, b1, b2, hP', rfl, hres, _⟩
          obtain ⟨u, l, c1, c2, rfl, rfl, hr1, rfl, rfl⟩ := hres
          exact ⟨U', hP', hr1.2.cr⟩
      · cases h
    · cases h
  · cases h
end
end Go.Proofs.Ytmlolnaannoifaa

/- Calls: the arguments. -/
namespace Go.Proofs.Ytmlolnaannoifaa

/-- The blocks that a call may write. -/
def argIds (p : PK) (a : AV) (g : View) : List Nat :=
  match p, a with
  | .val (.own _), .one (.osl _ id _) => [id]
  | .box k, .one (.ptr id 0) => id :: (match g id with | some (.box cells) => (ownIds k cells).1 | _ => [])
  | _, _ => []

def argsIds : List PK → List AV → View → List Nat
  | p :: ps, a :: as, g => argIds p a g ++ argsIds ps as g
  | _, _, _ => []

theorem ro_head {p : PK} {ps : List PK} {a : AV} {as : List AV} {i : Nat} (h : i ∈ roIds [p] [a]) : i ∈ roIds (p :: ps) (a :: as) := by
  unfold roIds at h ⊢
  split at h <;> rename_i heq1 heq2
  all_goals try (simp only [List.cons.injEq] at heq1 heq2; obtain ⟨rfl, rfl⟩ := heq1; obtain ⟨rfl, rfl⟩ := heq2)
  · simp [roIds] at h ⊢; exact .inl h
  · simp [roIds] at h ⊢; exact .inl h
  · simp [roIds] at h
  · simp at h

theorem ro_tail {p : PK} {ps : List PK} {a : AV} {as : List AV} {i : Nat} (h : i ∈ roIds ps as) : i ∈ roIds (p :: ps) (a :: as) := by
  have : ∀ l : List Nat, (∀ i ∈ roIds ps as, i ∈ l) → i ∈ l := fun l hl => hl i h
  refine this _ fun j hj => ?_
  rw [roIds.eq_def]
  split
  · rename_i heq1 heq2
    simp only [List.cons.injEq] at heq1 heq2
    obtain ⟨_, rfl⟩ := heq1; obtain ⟨_, rfl⟩ := heq2
    simp [hj]
  · rename_i heq1 heq2
    simp only [List.cons.injEq] at heq1 heq2
    obtain ⟨_, rfl⟩ := heq1; obtain ⟨_, rfl⟩ := heq2
    simp [hj]
  · rename_i heq1 heq2
    simp only [List.cons.injEq] at heq1 heq2
    obtain ⟨_, rfl⟩ := heq1; obtain ⟨_, rfl⟩ := heq2
    exact hj
  · rename_i hx; exact (hx _ _ _ _ rfl rfl).elim

section
variable {C : Ctx} {m : Mem} {g : View} {E : Env} {io : List Nat}

theorem fnArg_sound (hE : EnvOK C.P E) (hm : MemR C m) (hg : ViewOK g m.h) {a' r : Kd} {a : AV} {qs : List Prop} {x : a'.T → r.T} {v : Value} (h : fnArg E a' r a g = some (qs, x)) (hq : ∀ q ∈ qs, q) (ha : AVR C m a v)
    (hio : ∀ b ∈ io, C.w0.heap.size ≤ b ∨ b ∈ C.io) (hro : ∀ id ∈ roIds [.fnp a' r] [a], ∀ b ∈ blkL m id, b ∉ io) : ∃ fn cap, v = .func (.func fn) #[] cap ∧ FnRel C.P io m.U m.w fn cap a' r x := by
  unfold fnArg at h
  split at h
  · rename_i a2 r2 p
    split at h
    · rename_i he
      obtain ⟨rfl, rfl⟩ := he
      simp only [Option.some.injEq, Prod.mk.injEq] at h
      obtain ⟨_, rfl⟩ := h
      obtain ⟨_, fn, cap, hv, hr⟩ := ha
      exact ⟨fn, cap, hv, hr.lift hm.post hio⟩
    · cases h
  · rename_i f caps
    split at h
    · rename_i fs hf
      obtain ⟨_, hv, _⟩ := ha
      exact ⟨f, _, hv, cloFn_sound hE hm hg hf h hq (fun id hid => hro id (by simpa [roIds] using hid))⟩
    · cases h
  · cases h

theorem roArg_sound (hm : MemR C m) (hg : ViewOK g m.h) {k : Kd} {a : AV} {qs : List Prop} {x : k.T} {v : Value} (h : roArg k a g = some (qs, x)) (hq : ∀ q ∈ qs, q) (ha : AVR C m a v)
    (hio : ∀ b ∈ io, C.w0.heap.size ≤ b ∨ b ∈ C.io) (hro : ∀ id ∈ roIds [.ro k] [a], ∀ b ∈ blkL m id, b ∉ io) :
    ∃ a l, v = .pointer (some a) ∧ CR m.U m.w k x l ∧ ∀ j, j < l.length → (m.U (a.add j) ∨ (a.block < m.w.heap.size ∧ a.block ∉ io)) ∧ m.w.cell? (a.add j) = l[j]? := by
  unfold roArg at h
  split at h
  · rename_i id off
    split at h
    · rename_i cells hid
      obtain ⟨cs, ty, hh, hc, _⟩ := box_at hm (hg _ _ hid)
      obtain ⟨_, hv, _⟩ := ha
      have hlt := lt_of_heap hh
      refine ⟨_, (cs.toList.drop off).take k.sz, hv, ofCellsAll_sound hm hg h hq ((hc.drop off).take k.sz), fun j hj => ⟨.inr ⟨hlt, hro id (by simp [roIds]) _ (by simp [blkL, hg _ _ hid, blkOf])⟩, ?_⟩⟩
      have hj' : j < k.sz := by simp at hj; omega
      rw [Addr.add_mk, cell_blk hh, List.getElem?_take_of_lt hj', List.getElem?_drop]
      simp
    · cases h
  · rename_i k' y
    cases hc : Kd.cast k' k y with
    | none =>
      rw [hc] at h
      obtain ⟨_, a, l, hv, hcr, hj⟩ := ha
      refine ⟨a, l.take k.sz, hv, ofCellsAll_sound hm hg h hq ((toCells_sound hcr).take k.sz), fun j hjl => ?_⟩
      have hjk : j < k.sz := by simp at hjl; omega
      have hjl' : j < l.length := by simp at hjl; omega
      rw [List.getElem?_take_of_lt hjk]
      refine ⟨?_, (hj j hjl').2⟩
      rcases (hj j hjl').1 with h1 | ⟨h1, h2⟩
      · exact .inl h1
      · rw [Addr.add_block] at h1 h2
        have hs := hm.post.size
        refine .inr ⟨by omega, fun hin => ?_⟩
        rcases hio _ hin with h3 | h3
        · omega
        · exact h2 h3
    | some z =>
      rw [hc] at h
      simp only [Option.some.injEq, Prod.mk.injEq] at h
      obtain ⟨_, rfl⟩ := h
      obtain ⟨q, rfl⟩ := cast_some hc
      subst q
      obtain ⟨_, a, l, hv, hcr, hj⟩ := ha
      refine ⟨a, l, hv, hcr, fun j hjl => ⟨?_, (hj j hjl).2⟩⟩
      rcases (hj j hjl).1 with h1 | ⟨h1, h2⟩
      · exact .inl h1
      · rw [Addr.add_block] at h1 h2
        have hs := hm.post.size
        refine .inr ⟨by omega, fun hin => ?_⟩
        rcases hio _ hin with h3 | h3
        · omega
        · exact h2 h3
  · cases h

theorem getArg_sound (hE : EnvOK C.P E) (hm : MemR C m) (hg : ViewOK g m.h) {p : PK} {a : AV} {qs : List Prop} {x : p.T} {v : Value} (h : getArg E p a g = some (qs, x)) (hq : ∀ q ∈ qs, q) (ha : AVR C m a v)
    (hio : ∀ b ∈ io, C.w0.heap.size ≤ b ∨ b ∈ C.io) (hro : ∀ id ∈ roIds [p] [a], ∀ b ∈ blkL m id, b ∉ io) : ArgR C.P io m.U m.w p x v ((argIds p a g).flatMap (blkL m)) := by
  cases p with
  | val k =>
    simp only [getArg] at h
    unfold valArg at h
    split at h
    · rename_i a
      split at h
      · rename_i hc
        rw [Bool.and_eq_true, Bool.or_eq_true] at hc
        have hne : a ≠ .any := fun e => by subst e; simp [AV1.told] at hc
        obtain ⟨h1, h2⟩ := avr_one ha hne
        have hT := ofCellsAll_TR hm hg h hq (vs := [v]) ⟨⟨h1, h2⟩, trivial⟩
        refine ⟨h1, ?_⟩
        by_cases hp : k.pure = true
        · have hids : argIds (.val k) (.one a) g = [] := by cases k <;> first | rfl | simp [Kd.pure] at hp
          rw [hids]
          exact TR.of_pure hp hT.cr
        · have : ∃ e, k = .own e := by
            rcases hc.1 with h | h
            · exact absurd h hp
            · cases k <;> first | exact ⟨_, rfl⟩ | simp [Kd.isOwn] at h
          obtain ⟨e, rfl⟩ := this
          have hids : argIds (.val (.own e)) (.one a) g = (ownIds (.own e) [a]).1 := by cases a <;> rfl
          rw [hids]; exact hT
      · cases h
    · cases h
  | st k =>
    simp only [getArg] at h
    unfold stArg at h
    split at h
    · split at h
      · rename_i hc
        obtain ⟨cs, hv, hcl⟩ := ha
        exact ⟨cs, hv, TR.of_pure hc (ofCellsAll_sound hm hg h hq hcl)⟩
      · cases h
    · cases h
  | box k =>
    simp only [getArg] at h
    unfold boxArg at h
    split at h
    · rename_i id
      split at h
      · rename_i cells hid
        obtain ⟨cs, ty, hh, hc, hu⟩ := box_at hm (hg _ _ hid)
        obtain ⟨_, hv, _⟩ := ha
        refine ⟨_, _, hv, ⟨cs, ty, hh, ofCellsAll_TR hm hg h hq hc, hu⟩, ?_⟩
        simp [argIds, hid, blkL, hg _ _ hid, blkOf]
      · cases h
    · cases h
  | ro k => exact ⟨rfl, roArg_sound hm hg h hq ha hio hro⟩
  | fnp a' r => exact ⟨rfl, fnArg_sound hE hm hg h hq ha hio hro⟩

theorem getArgs_sound (hE : EnvOK C.P E) (hm : MemR C m) (hg : ViewOK g m.h) (hio : ∀ b ∈ io, C.w0.heap.size ≤ b ∨ b ∈ C.io) :
    ∀ {ps : List PK} {as : List AV} {qs : List Prop} {x : PsT ps} {vs : List Value}, getArgs E ps as g = some (qs, x) → (∀ q ∈ qs, q) → VRs C m as vs → (∀ id ∈ roIds ps as, ∀ b ∈ blkL m id, b ∉ io) →
      ArgsR C.P io m.U m.w ps x vs ((argsIds ps as g).flatMap (blkL m))
  | [], [], qs, x, [], h, hq, hv, hro => ⟨rfl, rfl⟩
  | [], [], qs, x, _ :: _, h, hq, hv, hro => hv.elim
  | [], _ :: _, qs, x, vs, h, hq, hv, hro => by simp [getArgs] at h
  | _ :: _, [], qs, x, vs, h, hq, hv, hro => by simp [getArgs] at h
  | p :: ps, a :: as, qs, x, [], h, hq, hv, hro => hv.elim
  | p :: ps, a :: as, qs, x, v :: vs, h, hq, hv, hro => by
    simp only [getArgs] at h
    split at h
    · rename_i q1 x1 h1
      split at h
      · rename_i q2 x2 h2
        simp only [Option.some.injEq, Prod.mk.injEq] at h
        obtain ⟨rfl, rfl⟩ := h
        refine ⟨v, vs, _, _, rfl, ?_, getArg_sound hE hm hg h1 (fun q hqq => hq q (List.mem_append.2 (.inl hqq))) hv.1 hio (fun id hid => hro id (ro_head hid)),
          getArgs_sound hE hm hg hio h2 (fun q hqq => hq q (List.mem_append.2 (.inr hqq))) hv.2 (fun id hid => hro id (ro_tail hid))⟩
        simp only [argsIds, List.flatMap_append]
      · cases h
    · cases h
end
end Go.Proofs.Ytmlolnaannoifaa

/- Calls: what comes back. -/
namespace Go.Proofs.Ytmlolnaannoifaa

def blkAt (m : Mem) (p : Nat × Ent) : List Nat := (blkOf (m.pl p.1) p.2).toList

structure Fits (C : Ctx) (U' : Addr → Prop) (w' : World) (ents : Ents) (places : List (Nat × Place)) (bs : List Nat) (Q : Mem → Prop) : Prop where
  keys : (places.map (·.1)).Perm (ents.map (·.1))
  fits : ∀ m' : Mem, m'.U = U' → m'.w = w' → (∀ p ∈ ents, m'.h p.1 = some p.2) → (∀ p ∈ places, m'.pl p.1 = p.2) →
    (∀ p ∈ ents, EntR C m' (m'.pl p.1) p.2) ∧ (ents.flatMap (blkAt m')).Perm bs ∧ Q m'

section
variable {C : Ctx} {U' : Addr → Prop} {w' : World}

theorem Fits.nil {Q : Mem → Prop} (h : ∀ m' : Mem, m'.U = U' → m'.w = w' → Q m') : Fits C U' w' [] [] [] Q :=
  ⟨.refl _, fun m' h1 h2 _ _ => ⟨fun p hp => by simp at hp, .refl _, h m' h1 h2⟩⟩

theorem Fits.app {e1 e2 : Ents} {p1 p2 : List (Nat × Place)} {b1 b2 : List Nat} {Q1 Q2 Q : Mem → Prop} (h1 : Fits C U' w' e1 p1 b1 Q1) (h2 : Fits C U' w' e2 p2 b2 Q2) (hQ : ∀ m' : Mem, m'.U = U' → m'.w = w' → Q1 m' → Q2 m' → Q m') :
    Fits C U' w' (e1 ++ e2) (p1 ++ p2) (b1 ++ b2) Q :=
  ⟨by rw [List.map_append, List.map_append]; exact h1.keys.append h2.keys, fun m' hU hw he hp => by
    obtain ⟨a1, a2, a3⟩ := h1.fits m' hU hw (fun p h => he p (List.mem_append.2 (.inl h))) (fun p h => hp p (List.mem_append.2 (.inl h)))
    obtain ⟨c1, c2, c3⟩ := h2.fits m' hU hw (fun p h => he p (List.mem_append.2 (.inr h))) (fun p h => hp p (List.mem_append.2 (.inr h)))
    exact ⟨fun p h => (List.mem_append.1 h).elim (a1 p) (c1 p), by rw [List.flatMap_append]; exact a2.append c2, hQ m' hU hw a3 c3⟩⟩

theorem Fits.perm {e1 e2 : Ents} {p1 : List (Nat × Place)} {b1 : List Nat} {Q1 Q2 : Mem → Prop} (h : Fits C U' w' e1 p1 b1 Q1) (hp : e1.Perm e2) (hQ : ∀ m', Q1 m' → Q2 m') : Fits C U' w' e2 p1 b1 Q2 :=
  ⟨h.keys.trans (hp.map _), fun m' hU hw he hpl => by
    obtain ⟨a1, a2, a3⟩ := h.fits m' hU hw (fun p hin => he p (hp.mem_iff.1 hin)) hpl
    exact ⟨fun p hin => a1 p (hp.mem_iff.2 hin), (hp.symm.flatMap_right _).trans a2, hQ m' a3⟩⟩

/-- An entry that holds no block. -/
theorem Fits.frz {id : Nat} {e : Kd} {xs : List e.T} (p : Place) : Fits C U' w' [(id, .frz e 0 xs)] [(id, p)] [] (fun _ => True) :=
  ⟨.refl _, fun m' _ _ _ _ => ⟨fun q hq => by simp at hq; subst hq; trivial, by simp [blkAt, blkOf], trivial⟩⟩

theorem own_fits {e : Kd} {x : List e.T} {l : List Value} {bs : List Nat} (c : Nat) (h : TR U' w' (.own e) x l bs) :
    ∃ places, Fits C U' w' [(c, .vec e x)] places bs (fun m' => CLs C m' [.osl e c x.length] l) := by
  obtain ⟨A, cap, g, rfl, ho, rfl⟩ := h
  refine ⟨[(c, ⟨g, A, cap⟩)], .refl _, fun m' hU hw he hp => ?_⟩
  have hpl : m'.pl c = ⟨g, A, cap⟩ := hp (c, ⟨g, A, cap⟩) (by simp)
  have hc : m'.h c = some (.vec e x) := he (c, .vec e x) (by simp)
  refine ⟨fun q hq => ?_, ?_, ⟨rfl, A, cap, rfl, e, x, .inl ⟨hc, Nat.le_refl _, fun _ => by rw [hpl]; exact ⟨rfl, rfl⟩⟩⟩, trivial⟩
  · simp at hq; subst hq
    show OwnAt m'.U m'.w e x (m'.pl c).A (m'.pl c).cap (m'.pl c).g
    rw [hU, hw, hpl]; exact ho
  · simp only [List.flatMap_cons, List.flatMap_nil, List.append_nil, blkAt, blkOf, hpl]
    split <;> exact .refl _

theorem sc_fits {k : Kd} {x : k.T} {v : Value} (h1 : oneC v = true) (h : CR U' w' k x [v]) : Fits C U' w' [] [] [] (fun m' => CLs C m' [.d k x] [v]) :=
  Fits.nil fun m' hU hw => ⟨⟨h1, by show CR m'.U m'.w k x [v]; rw [hU, hw]; exact h⟩, trivial⟩

theorem sc1 {k : Kd} {x : k.T} {l : List Value} (hk : k.one = true) (h : CR U' w' k x l) : ∃ v, l = [v] ∧ oneC v = true := by
  have hl := h.length
  have : k.sz = 1 := by cases k <;> first | rfl | simp [Kd.one] at hk
  rw [this] at hl
  match l, hl with
  | [v], _ => exact ⟨v, rfl, CR.oneC' h v (by simp)⟩

theorem newCells_fits : ∀ {k : Kd} {x : k.T} {l : List Value} {bs : List Nat} (c : Nat), TR U' w' k x l bs →
    ∃ places, Fits C U' w' (newCells k x c).2.1 places bs (fun m' => CLs C m' (newCells k x c).1 l)
  | .unit, x, l, bs, c, h => by
    obtain ⟨h1, rfl⟩ := h
    obtain rfl : l = [] := h1
    exact ⟨[], Fits.nil fun _ _ _ => trivial⟩
  | .pair a b, x, l, bs, c, h => by
    obtain ⟨l1, l2, b1, b2, rfl, rfl, h1, h2⟩ := h
    obtain ⟨p1, f1⟩ := newCells_fits c h1
    obtain ⟨p2, f2⟩ := newCells_fits (newCells a x.1 c).2.2 h2
    exact ⟨p1 ++ p2, f1.app f2 fun m' _ _ q1 q2 => CLs.app q1 q2⟩
  | .own e, x, l, bs, c, h => own_fits c h
  | .bool, x, l, bs, c, h => by
    obtain ⟨h1, rfl⟩ := h
    obtain ⟨v, rfl, hv⟩ := sc1 rfl h1
    exact ⟨[], sc_fits hv h1⟩
  | .int k, x, l, bs, c, h => by
    obtain ⟨h1, rfl⟩ := h
    obtain ⟨v, rfl, hv⟩ := sc1 rfl h1
    exact ⟨[], sc_fits hv h1⟩
  | .flt k, x, l, bs, c, h => by
    obtain ⟨h1, rfl⟩ := h
    obtain ⟨v, rfl, hv⟩ := sc1 rfl h1
    exact ⟨[], sc_fits hv h1⟩
  | .str, x, l, bs, c, h => by
    obtain ⟨h1, rfl⟩ := h
    obtain ⟨v, rfl, hv⟩ := sc1 rfl h1
    exact ⟨[], sc_fits hv h1⟩
  | .sl e, x, l, bs, c, h => by
    obtain ⟨h1, rfl⟩ := h
    obtain ⟨v, rfl, hv⟩ := sc1 rfl h1
    exact ⟨[], sc_fits hv h1⟩

theorem outCells_fits : ∀ {k : Kd} {x : k.T} {cells : List AV1} {l : List Value} {bs : List Nat} {c : Nat} {u : List AV1} {s n : Ents} {rest : List AV1} {c' : Nat},
    outCells k x cells c = some (u, s, n, rest, c') → TR U' w' k x l bs →
    (∃ places, Fits C U' w' n places bs (fun m' => CLs C m' u l)) ∧ (∀ p ∈ s, ∃ e, p.2 = .frz e 0 []) ∧ s.map (·.1) = (ownIds k cells).1 ∧ (ownIds k cells).2 = rest
  | .unit, x, cells, l, bs, c, u, s, n, rest, c', h, ht => by
    simp only [outCells, Option.some.injEq, Prod.mk.injEq] at h
    obtain ⟨rfl, rfl, rfl, rfl, rfl⟩ := h
    obtain ⟨h1, rfl⟩ := ht
    obtain rfl : l = [] := h1
    exact ⟨⟨[], Fits.nil fun _ _ _ => trivial⟩, fun p hp => by simp at hp, rfl, rfl⟩
  | .pair a b, x, cells, l, bs, c, u, s, n, rest, c', h, ht => by
    obtain ⟨l1, l2, b1, b2, rfl, rfl, h1, h2⟩ := ht
    simp only [outCells] at h
    split at h
    · rename_i u1 s1 n1 r1 c1 e1
      split at h
      · rename_i u2 s2 n2 r2 c2 e2
        simp only [Option.some.injEq, Prod.mk.injEq] at h
        obtain ⟨rfl, rfl, rfl, rfl, rfl⟩ := h
        obtain ⟨⟨p1, f1⟩, g1, k1, j1⟩ := outCells_fits e1 h1
        obtain ⟨⟨p2, f2⟩, g2, k2, j2⟩ := outCells_fits e2 h2
        refine ⟨⟨p1 ++ p2, f1.app f2 fun m' _ _ q1 q2 => CLs.app q1 q2⟩, fun p hp => (List.mem_append.1 hp).elim (g1 p) (g2 p), ?_, ?_⟩
        · simp only [List.map_append, k1, k2, ownIds, j1]
        · simp only [ownIds, j1, j2]
      · cases h
    · cases h
  | .own e, x, .osl e' id n0 :: cells, l, bs, c, u, s, n, rest, c', h, ht => by
    simp only [outCells, Option.some.injEq, Prod.mk.injEq] at h
    obtain ⟨rfl, rfl, rfl, rfl, rfl⟩ := h
    exact ⟨own_fits c ht, fun p hp => by simp at hp; subst hp; exact ⟨_, rfl⟩, rfl, rfl⟩
  | .own e, x, .nilsl :: cells, l, bs, c, u, s, n, rest, c', h, ht => by
    simp only [outCells, Option.some.injEq, Prod.mk.injEq] at h
    obtain ⟨rfl, rfl, rfl, rfl, rfl⟩ := h
    exact ⟨own_fits c ht, fun p hp => by simp at hp, rfl, rfl⟩
  | .own e, x, [], l, bs, c, u, s, n, rest, c', h, ht => by simp [outCells] at h
  | .own e, x, .d _ _ :: _, l, bs, c, u, s, n, rest, c', h, ht => by simp [outCells] at h
  | .own e, x, .ptr _ _ :: _, l, bs, c, u, s, n, rest, c', h, ht => by simp [outCells] at h
  | .own e, x, .eptr _ _ _ :: _, l, bs, c, u, s, n, rest, c', h, ht => by simp [outCells] at h
  | .own e, x, .cptr _ _ :: _, l, bs, c, u, s, n, rest, c', h, ht => by simp [outCells] at h
  | .own e, x, .msl _ :: _, l, bs, c, u, s, n, rest, c', h, ht => by simp [outCells] at h
  | .own e, x, .clo _ _ :: _, l, bs, c, u, s, n, rest, c', h, ht => by simp [outCells] at h
  | .own e, x, .fnv _ _ _ :: _, l, bs, c, u, s, n, rest, c', h, ht => by simp [outCells] at h
  | .own e, x, .nilp :: _, l, bs, c, u, s, n, rest, c', h, ht => by simp [outCells] at h
  | .own e, x, .msb _ _ _ :: _, l, bs, c, u, s, n, rest, c', h, ht => by simp [outCells] at h
  | .own e, x, .pb _ :: _, l, bs, c, u, s, n, rest, c', h, ht => by simp [outCells] at h
  | .own e, x, .any :: _, l, bs, c, u, s, n, rest, c', h, ht => by simp [outCells] at h
  | .bool, x, [], l, bs, c, u, s, n, rest, c', h, ht => by simp [outCells] at h
  | .int k, x, [], l, bs, c, u, s, n, rest, c', h, ht => by simp [outCells] at h
  | .flt k, x, [], l, bs, c, u, s, n, rest, c', h, ht => by simp [outCells] at h
  | .str, x, [], l, bs, c, u, s, n, rest, c', h, ht => by simp [outCells] at h
  | .sl e, x, [], l, bs, c, u, s, n, rest, c', h, ht => by simp [outCells] at h
  | .bool, x, a :: cells, l, bs, c, u, s, n, rest, c', h, ht => by
    simp only [outCells, Option.some.injEq, Prod.mk.injEq] at h
    obtain ⟨rfl, rfl, rfl, rfl, rfl⟩ := h
    obtain ⟨h1, rfl⟩ := ht
    obtain ⟨v, rfl, hv⟩ := sc1 rfl h1
    exact ⟨⟨[], sc_fits hv h1⟩, fun p hp => by simp at hp, rfl, rfl⟩
  | .int k, x, a :: cells, l, bs, c, u, s, n, rest, c', h, ht => by
    simp only [outCells, Option.some.injEq, Prod.mk.injEq] at h
    obtain ⟨rfl, rfl, rfl, rfl, rfl⟩ := h
    obtain ⟨h1, rfl⟩ := ht
    obtain ⟨v, rfl, hv⟩ := sc1 rfl h1
    exact ⟨⟨[], sc_fits hv h1⟩, fun p hp => by simp at hp, rfl, rfl⟩
  | .flt k, x, a :: cells, l, bs, c, u, s, n, rest, c', h, ht => by
    simp only [outCells, Option.some.injEq, Prod.mk.injEq] at h
    obtain ⟨rfl, rfl, rfl, rfl, rfl⟩ := h
    obtain ⟨h1, rfl⟩ := ht
    obtain ⟨v, rfl, hv⟩ := sc1 rfl h1
    exact ⟨⟨[], sc_fits hv h1⟩, fun p hp => by simp at hp, rfl, rfl⟩
  | .str, x, a :: cells, l, bs, c, u, s, n, rest, c', h, ht => by
    simp only [outCells, Option.some.injEq, Prod.mk.injEq] at h
    obtain ⟨rfl, rfl, rfl, rfl, rfl⟩ := h
    obtain ⟨h1, rfl⟩ := ht
    obtain ⟨v, rfl, hv⟩ := sc1 rfl h1
    exact ⟨⟨[], sc_fits hv h1⟩, fun p hp => by simp at hp, rfl, rfl⟩
  | .sl e, x, a :: cells, l, bs, c, u, s, n, rest, c', h, ht => by
    simp only [outCells, Option.some.injEq, Prod.mk.injEq] at h
    obtain ⟨rfl, rfl, rfl, rfl, rfl⟩ := h
    obtain ⟨h1, rfl⟩ := ht
    obtain ⟨v, rfl, hv⟩ := sc1 rfl h1
    exact ⟨⟨[], sc_fits hv h1⟩, fun p hp => by simp at hp, rfl, rfl⟩

theorem frzs_fits : ∀ {s : Ents} (pl : Nat → Place), (∀ p ∈ s, ∃ e, p.2 = .frz e 0 []) → Fits C U' w' s (s.map fun p => (p.1, pl p.1)) [] (fun _ => True)
  | [], _, _ => Fits.nil fun _ _ _ => trivial
  | (id, e0) :: s, pl, h => by
    obtain ⟨e, he⟩ := h (id, e0) (by simp)
    simp only at he
    subst he
    exact (Fits.frz (pl id)).app (frzs_fits pl (fun p hp => h p (by simp [hp]))) fun _ _ _ _ _ => trivial

theorem newRes_fits {r : RK} {x : r.T} {v : Value} {bs : List Nat} (c : Nat) (h : ResR1 U' w' r x v bs) :
    ∃ places, Fits C U' w' (newRes r x c).2.1 places bs (fun m' => TL1 C m' (newRes r x c).1 v) := by
  cases r with
  | one k =>
    obtain ⟨h1, h2⟩ := h
    obtain ⟨p, f⟩ := newCells_fits (C := C) c h2
    refine ⟨p, f.perm (.refl _) fun m' hc => ?_⟩
    show TL1 C m' (false, (newCells k x c).1) v
    match (newCells k x c).1, hc with
    | [], _ => trivial
    | [a], hc => exact hc.1
    | _ :: _ :: _, _ => trivial
  | st k =>
    obtain ⟨cs, hv, h2⟩ := h
    obtain ⟨p, f⟩ := newCells_fits (C := C) c h2
    exact ⟨p, f.perm (.refl _) fun m' hc => ⟨cs, hv, hc⟩⟩
  | nb k =>
    obtain ⟨g, bs', hv, ⟨cs, ty, hh, h2, hu⟩, rfl⟩ := h
    obtain ⟨p, f⟩ := newCells_fits (C := C) (c + 1) h2
    refine ⟨(c, ⟨g, none, 0⟩) :: p, by simpa [newRes] using f.keys, fun m' hU hw he hp => ?_⟩
    obtain ⟨a1, a2, a3⟩ := f.fits m' hU hw (fun q hq => he q (by simp [newRes, hq])) (fun q hq => hp q (by simp [hq]))
    have hpl : m'.pl c = ⟨g, none, 0⟩ := hp (c, ⟨g, none, 0⟩) (by simp)
    have hc : m'.h c = some (.box (newCells k x (c + 1)).1) := he (c, .box (newCells k x (c + 1)).1) (by simp [newRes])
    refine ⟨fun q hq => ?_, ?_, ?_⟩
    · simp only [newRes, List.mem_cons] at hq
      rcases hq with rfl | hq
      · refine ⟨cs, ty, ?_, a3, ?_⟩
        · show m'.w.heap[(m'.pl c).g]? = _
          rw [hw, hpl]; exact hh
        · intro a ha
          rw [hU]
          exact hu a (by rw [hpl] at ha; exact ha)
      · exact a1 q hq
    · simp only [newRes, List.flatMap_cons, blkAt, blkOf, hpl]
      exact .cons _ a2
    · refine ⟨by rw [hv]; rfl, ?_, .inl ⟨_, hc⟩⟩
      rw [hpl]; exact hv

theorem newRess_fits : ∀ {rs : List RK} {x : RsT rs} {vs : List Value} {bs : List Nat} (c : Nat), ResL U' w' rs x vs bs →
    ∃ places, Fits C U' w' (newRess rs x c).2 places bs (fun m' => TLs C m' (newRess rs x c).1 vs)
  | [], x, vs, bs, c, h => by
    obtain ⟨rfl, rfl⟩ := h
    exact ⟨[], Fits.nil fun _ _ _ => trivial⟩
  | r :: rs, x, vs, bs, c, h => by
    obtain ⟨v, l, b1, b2, rfl, rfl, h1, h2⟩ := h
    obtain ⟨p1, f1⟩ := newRes_fits (C := C) c h1
    obtain ⟨p2, f2⟩ := newRess_fits (newRes r x.1 c).2.2 h2
    exact ⟨p1 ++ p2, f1.app f2 fun m' _ _ q1 q2 => ⟨q1, q2⟩⟩
end
end Go.Proofs.Ytmlolnaannoifaa

/- Calls: the whole operation. -/
namespace Go.Proofs.Ytmlolnaannoifaa

theorem ownIds_vec {g : View} : ∀ {k : Kd} {l : List AV1} {ps : List Prop} {x : k.T} {l' : List AV1}, ofCells k l g = some (ps, x, l') →
    (∀ id ∈ (ownIds k l).1, ∃ e xs, g id = some (.vec e xs)) ∧ (ownIds k l).2 = l'
  | .unit, l, ps, x, l', h => by
    simp only [ofCells, Option.some.injEq, Prod.mk.injEq] at h
    obtain ⟨_, _, rfl⟩ := h
    exact ⟨fun id hid => by simp [ownIds] at hid, rfl⟩
  | .pair a b, l, ps, x, l', h => by
    simp only [ofCells] at h
    split at h
    · rename_i p xa la ha
      split at h
      · rename_i q xb lb hb
        simp only [Option.some.injEq, Prod.mk.injEq] at h
        obtain ⟨rfl, rfl, rfl⟩ := h
        obtain ⟨a1, a2⟩ := ownIds_vec ha
        obtain ⟨b1, b2⟩ := ownIds_vec hb
        refine ⟨fun id hid => ?_, by simp only [ownIds, a2, b2]⟩
        simp only [ownIds, a2] at hid
        exact (List.mem_append.1 hid).elim (a1 id) (b1 id)
      · cases h
    · cases h
  | .own e, a :: l, ps, x, l', h => by
    simp only [ofCells] at h
    obtain ⟨h', rfl⟩ := map3_some h
    unfold ownOf at h'
    split at h'
    · split at h'
      · rename_i e' xs hid
        exact ⟨fun id hin => by simp [ownIds] at hin; subst hin; exact ⟨_, _, hid⟩, rfl⟩
      · cases h'
    · exact ⟨fun id hin => by simp [ownIds] at hin, rfl⟩
    · cases h'
  | .sl e, a :: l, ps, x, l', h => by
    simp only [ofCells] at h
    obtain ⟨_, rfl⟩ := map3_some h
    exact ⟨fun id hin => by simp [ownIds] at hin, rfl⟩
  | .bool, a :: l, ps, x, l', h => by
    simp only [ofCells] at h
    obtain ⟨_, rfl⟩ := map3_some h
    exact ⟨fun id hin => by simp [ownIds] at hin, rfl⟩
  | .int k, a :: l, ps, x, l', h => by
    simp only [ofCells] at h
    obtain ⟨_, rfl⟩ := map3_some h
    exact ⟨fun id hin => by simp [ownIds] at hin, rfl⟩
  | .flt k, a :: l, ps, x, l', h => by
    simp only [ofCells] at h
    obtain ⟨_, rfl⟩ := map3_some h
    exact ⟨fun id hin => by simp [ownIds] at hin, rfl⟩
  | .str, a :: l, ps, x, l', h => by
    simp only [ofCells] at h
    obtain ⟨_, rfl⟩ := map3_some h
    exact ⟨fun id hin => by simp [ownIds] at hin, rfl⟩
  | .own _, [], _, _, _, h => by simp [ofCells] at h
  | .sl _, [], _, _, _, h => by simp [ofCells] at h
  | .bool, [], _, _, _, h => by simp [ofCells] at h
  | .int _, [], _, _, _, h => by simp [ofCells] at h
  | .flt _, [], _, _, _, h => by simp [ofCells] at h
  | .str, [], _, _, _, h => by simp [ofCells] at h

theorem ownIds_vec_all {g : View} {k : Kd} {l : List AV1} {ps : List Prop} {x : k.T} (h : ofCellsAll k l g = some (ps, x)) : ∀ id ∈ (ownIds k l).1, ∃ e xs, g id = some (.vec e xs) := by
  unfold ofCellsAll at h
  split at h
  · rename_i h'; exact (ownIds_vec h').1
  · cases h

section
variable {C : Ctx} {m : Mem} {g : View} {E : Env} {U' : Addr → Prop} {w' : World}

def ExtOf (m m' : Mem) (s : Ents) : Prop := ∀ p ∈ s, ∃ e0, m.h p.1 = some e0 ∧ EntExt (m.pl p.1) (m'.pl p.1) e0 p.2

theorem ext_frzs {g : View} (hg : ViewOK g m.h) {m' : Mem} {s : Ents} (h : ∀ p ∈ s, ∃ e, p.2 = .frz e 0 []) (hv : ∀ id ∈ s.map (·.1), ∃ e xs, g id = some (.vec e xs)) : ExtOf m m' s := by
  intro p hp
  obtain ⟨e, he⟩ := h p hp
  obtain ⟨e', xs, hx⟩ := hv p.1 (List.mem_map.2 ⟨p, hp, rfl⟩)
  exact ⟨_, hg _ _ hx, by rw [he]; rfl⟩

theorem putOuts_fits (hm : MemR C m) (hg : ViewOK g m.h) : ∀ {ps : List PK} {as : List AV} {qs : List Prop} {x : PsT ps} {o : OsT ps} {vs : List Value} {bs : List Nat} {c : Nat} {s n : Ents} {c' : Nat},
    getArgs E ps as g = some (qs, x) → putOuts ps o as g c = some (s, n, c') → VRs C m as vs → OutsR U' w' ps o vs bs →
    (∃ places, Fits C U' w' (s ++ n) places bs (fun m' => ExtOf m m' s)) ∧ s.map (·.1) = argsIds ps as g
  | [], [], qs, x, o, vs, bs, c, s, n, c', h, hp, hv, ho => by
    simp only [putOuts, Option.some.injEq, Prod.mk.injEq] at hp
    obtain ⟨rfl, rfl, rfl⟩ := hp
    obtain ⟨rfl, rfl⟩ := ho
    exact ⟨⟨[], Fits.nil fun _ _ _ p hp => by simp at hp⟩, rfl⟩
  | [], _ :: _, qs, x, o, vs, bs, c, s, n, c', h, hp, hv, ho => by simp [getArgs] at h
  | _ :: _, [], qs, x, o, vs, bs, c, s, n, c', h, hp, hv, ho => by simp [getArgs] at h
  | p :: ps, a :: as, qs, x, o, [], bs, c, s, n, c', h, hp, hv, ho => hv.elim
  | p :: ps, a :: as, qs, x, o, v :: vs, bs, c, s, n, c', h, hp, hv, ho => by
    simp only [getArgs] at h
    split at h
    · rename_i q1 x1 h1
      split at h
      · rename_i q2 x2 h2
        clear h
        cases p with
        | st k =>
          obtain ⟨v', r, heq, ho'⟩ := ho
          obtain ⟨rfl, rfl⟩ := List.cons.inj heq
          simp only [putOuts] at hp
          obtain ⟨f, hk⟩ := putOuts_fits hm hg h2 hp hv.2 ho'
          exact ⟨f, by rw [hk]; rfl⟩
        | ro k =>
          obtain ⟨v', r, heq, ho'⟩ := ho
          obtain ⟨rfl, rfl⟩ := List.cons.inj heq
          simp only [putOuts] at hp
          obtain ⟨f, hk⟩ := putOuts_fits hm hg h2 hp hv.2 ho'
          exact ⟨f, by rw [hk]; rfl⟩
        | fnp k k' =>
          obtain ⟨v', r, heq, ho'⟩ := ho
          obtain ⟨rfl, rfl⟩ := List.cons.inj heq
          simp only [putOuts] at hp
          obtain ⟨f, hk⟩ := putOuts_fits hm hg h2 hp hv.2 ho'
          exact ⟨f, by rw [hk]; rfl⟩
        | val k =>
          obtain ⟨v', r, heq, ho'⟩ := ho
          obtain ⟨rfl, rfl⟩ := List.cons.inj heq
          have plain : argIds (.val k) a g = [] → putOuts ps o as g c = some (s, n, c') → (∃ places, Fits C U' w' (s ++ n) places bs (fun m' => ExtOf m m' s)) ∧ s.map (·.1) = argsIds (.val k :: ps) (a :: as) g := by
            intro h0 hp
            obtain ⟨f, hk⟩ := putOuts_fits hm hg h2 hp hv.2 ho'
            exact ⟨f, by rw [hk]; simp only [argsIds, h0, List.nil_append]⟩
          cases k with
          | own e =>
            cases a with
            | one a =>
              cases a with
              | osl e' id n0 =>
                simp only [putOuts] at hp
                split at hp
                · rename_i s1 n1 c1 hp1
                  simp only [Option.some.injEq, Prod.mk.injEq] at hp
                  obtain ⟨rfl, rfl, rfl⟩ := hp
                  obtain ⟨⟨pl, f⟩, hk⟩ := putOuts_fits hm hg h2 hp1 hv.2 ho'
                  refine ⟨⟨_, (Fits.frz (id := id) (e := e') (xs := []) (m.pl id)).app f (Q := fun m' => ExtOf m m' ((id, .frz e' 0 []) :: s1)) fun m' _ _ _ hq => ?_⟩, by simp [argsIds, argIds, hk]⟩
                  intro p hp
                  rcases List.mem_cons.1 hp with rfl | hp
                  · have h1' : ofCellsAll (.own e) [.osl e' id n0] g = some (q1, x1) := by simpa [getArg, valArg, Kd.pure, Kd.isOwn, AV1.told] using h1
                    obtain ⟨e2, xs, hx⟩ := ownIds_vec_all h1' id (by simp [ownIds])
                    exact ⟨_, hg _ _ hx, rfl⟩
                  · exact hq p hp
                · cases hp
              | _ => exact plain rfl hp
            | agg l => exact plain rfl hp
            | tup l => exact plain rfl hp
          | _ => exact plain (by cases a <;> rfl) hp
        | box k =>
          obtain ⟨g0, r, b1, b2, heq, rfl, ⟨cs, ty, hh, ht, hu⟩, ho'⟩ := ho
          obtain ⟨rfl, rfl⟩ := List.cons.inj heq
          simp only [getArg] at h1
          unfold boxArg at h1
          split at h1
          · rename_i id
            split at h1
            · rename_i cells hid
              simp only [putOuts, hid] at hp
              split at hp
              · rename_i u s1 n1 c1 e1
                split at hp
                · rename_i s2 n2 c2 e2
                  simp only [Option.some.injEq, Prod.mk.injEq] at hp
                  obtain ⟨rfl, rfl, rfl⟩ := hp
                  obtain ⟨⟨p1, f1⟩, hz, hk1, _⟩ := outCells_fits (C := C) e1 ht
                  obtain ⟨⟨p2, f2⟩, hk2⟩ := putOuts_fits hm hg h2 e2 hv.2 ho'
                  have hg0 : g0 = (m.pl id).g := by
                    have h3 := hv.1.2.1
                    simp only [Value.pointer.injEq, Option.some.injEq, Addr.mk.injEq] at h3
                    exact h3.1
                  have fb : Fits C U' w' ((id, .box u) :: n1) ((id, m.pl id) :: p1) (g0 :: b1) (fun m' => EntExt (m.pl id) (m'.pl id) (.box cells) (.box u)) := by
                    refine ⟨by simpa using f1.keys, fun m' hU hw he hpp => ?_⟩
                    obtain ⟨a1, a2, a3⟩ := f1.fits m' hU hw (fun q hq => he q (by simp [hq])) (fun q hq => hpp q (by simp [hq]))
                    have hpl : m'.pl id = m.pl id := hpp (id, m.pl id) (by simp)
                    refine ⟨fun q hq => ?_, ?_, ?_⟩
                    · rcases List.mem_cons.1 hq with rfl | hq
                      · refine ⟨cs, ty, ?_, a3, fun a ha => ?_⟩
                        · show m'.w.heap[(m'.pl id).g]? = _
                          rw [hw, hpl, ← hg0]; exact hh
                        · rw [hU]
                          refine hu a ?_
                          rw [ha, hg0]
                          show (m'.pl id).g = _
                          rw [hpl]
                      · exact a1 q hq
                    · simp only [List.flatMap_cons, blkAt, blkOf, hpl, ← hg0]
                      exact .cons _ a2
                    · show (m'.pl id).g = (m.pl id).g
                      rw [hpl]
                  have fz := frzs_fits (C := C) (U' := U') (w' := w') m.pl hz
                  have hbs : g0 :: b1 ++ b2 = g0 :: b1 ++ [] ++ b2 := by simp
                  rw [hbs]
                  refine ⟨⟨_, ((fb.app fz (Q := fun m' => EntExt (m.pl id) (m'.pl id) (.box cells) (.box u)) fun _ _ _ h _ => h).app f2 (Q := fun m' => ExtOf m m' ((id, .box u) :: s1 ++ s2)) fun m' _ _ q1 q2 => ?_).perm ?_ fun _ h => h⟩, ?_⟩
                  · intro p hp
                    simp only [List.cons_append, List.mem_cons, List.mem_append] at hp
                    rcases hp with rfl | hp | hp
                    · exact ⟨_, hg _ _ hid, q1⟩
                    · exact ext_frzs hg hz (fun i hi => ownIds_vec_all h1 i (by rw [← hk1]; exact hi)) p hp
                    · exact q2 p hp
                  · simp only [List.cons_append, List.append_assoc]
                    refine .cons _ ?_
                    have : (n1 ++ (s1 ++ (s2 ++ n2))).Perm (s1 ++ (s2 ++ (n1 ++ n2))) := by
                      rw [← List.append_assoc, ← List.append_assoc, ← List.append_assoc s1, ← List.append_assoc (s1 ++ s2)]
                      refine .append_right _ ?_
                      rw [List.append_assoc]
                      exact List.perm_append_comm
                    exact this
                  · simp only [List.map_append, List.map_cons, hk1, hk2, argsIds, argIds, hid]
                · cases hp
              · cases hp
            · cases h1
          · cases h1
      · cases h
    · cases h
end
end Go.Proofs.Ytmlolnaannoifaa

/- Calls: memory behind them; the operation. -/
namespace Go.Proofs.Ytmlolnaannoifaa

theorem get1_mem {α : Type} : ∀ {l : List (Nat × α)}, (l.map (·.1)).Nodup → ∀ p ∈ l, get1 l p.1 = some p.2
  | [], _, p, h => by simp at h
  | (j, v) :: l, hn, p, h => by
    simp only [List.map_cons, List.nodup_cons] at hn
    rcases List.mem_cons.1 h with rfl | h
    · simp [get1]
    · have hne : p.1 ≠ j := fun e => hn.1 (by rw [← e]; exact List.mem_map.2 ⟨p, h, rfl⟩)
      simp only [get1, nbeq_ne hne]
      exact get1_mem hn.2 p h

theorem get1_none {α : Type} : ∀ {l : List (Nat × α)} {i : Nat}, i ∉ l.map (·.1) → get1 l i = none
  | [], _, _ => rfl
  | (j, v) :: l, i, h => by
    simp only [List.map_cons, List.mem_cons, not_or] at h
    simp only [get1, nbeq_ne h.1]
    exact get1_none h.2

theorem get1_some {α : Type} : ∀ {l : List (Nat × α)} {i : Nat} {v : α}, get1 l i = some v → (i, v) ∈ l
  | [], _, _, h => by simp [get1] at h
  | (j, u) :: l, i, v, h => by
    simp only [get1] at h
    split at h
    · rename_i hb
      have := Nat.eq_of_beq_eq_true hb
      simp only [Option.some.injEq] at h
      subst this; subst h; simp
    · exact List.mem_cons.2 (.inr (get1_some h))

theorem nodup_flatMap_eq {α β : Type} {f : α → List β} : ∀ {l : List α}, (l.flatMap f).Nodup → ∀ {a b : α} {x : β}, a ∈ l → b ∈ l → x ∈ f a → x ∈ f b → a = b
  | [], _, a, b, x, h, _, _, _ => by simp at h
  | c :: l, hn, a, b, x, ha, hb, hxa, hxb => by
    rw [List.flatMap_cons, List.nodup_append] at hn
    rcases List.mem_cons.1 ha with rfl | ha'
    · rcases List.mem_cons.1 hb with rfl | hb'
      · rfl
      · exact absurd rfl (hn.2.2 x hxa x (List.mem_flatMap.2 ⟨b, hb', hxb⟩))
    · rcases List.mem_cons.1 hb with rfl | hb'
      · exact absurd rfl (hn.2.2 x hxb x (List.mem_flatMap.2 ⟨a, ha', hxa⟩))
      · exact nodup_flatMap_eq hn.2.1 ha' hb' hxa hxb

theorem CallOK.mono {P : Program} {f : FuncId} {vs : Array Value} {w : World} {R R' : Value → World → Prop} (h : CallOK P f vs w R) (hR : ∀ v w, R v w → R' v w) : CallOK P f vs w R' := by
  unfold CallOK at h ⊢
  split at h
  · exact hR _ _ h
  · exact Calls.mono h (fun e w'' ⟨v, h1, h2⟩ => ⟨v, h1, hR _ _ h2⟩)
  · exact h.elim

theorem outCells_ids : ∀ {k : Kd} {x : k.T} {cells : List AV1} {c : Nat} {u : List AV1} {s n : Ents} {rest : List AV1} {c' : Nat},
    outCells k x cells c = some (u, s, n, rest, c') → s.map (·.1) = (ownIds k cells).1 ∧ (ownIds k cells).2 = rest
  | .unit, x, cells, c, u, s, n, rest, c', h => by
    simp only [outCells, Option.some.injEq, Prod.mk.injEq] at h
    obtain ⟨rfl, rfl, rfl, rfl, rfl⟩ := h
    exact ⟨rfl, rfl⟩
  | .pair a b, x, cells, c, u, s, n, rest, c', h => by
    simp only [outCells] at h
    split at h
    · rename_i u1 s1 n1 r1 c1 e1
      split at h
      · rename_i u2 s2 n2 r2 c2 e2
        simp only [Option.some.injEq, Prod.mk.injEq] at h
        obtain ⟨rfl, rfl, rfl, rfl, rfl⟩ := h
        obtain ⟨k1, j1⟩ := outCells_ids e1
        obtain ⟨k2, j2⟩ := outCells_ids e2
        refine ⟨?_, ?_⟩
        · simp only [List.map_append, k1, k2, ownIds, j1]
        · simp only [ownIds, j1, j2]
      · cases h
    · cases h
  | .own e, x, a :: cells, c, u, s, n, rest, c', h => by
    cases a <;> simp only [outCells, Option.some.injEq, Prod.mk.injEq] at h <;> try (cases h; done)
    all_goals
      obtain ⟨rfl, rfl, rfl, rfl, rfl⟩ := h
      exact ⟨rfl, rfl⟩
  | .own e, x, [], c, u, s, n, rest, c', h => by simp [outCells] at h
  | .bool, x, [], c, u, s, n, rest, c', h => by simp [outCells] at h
  | .int k, x, [], c, u, s, n, rest, c', h => by simp [outCells] at h
  | .flt k, x, [], c, u, s, n, rest, c', h => by simp [outCells] at h
  | .str, x, [], c, u, s, n, rest, c', h => by simp [outCells] at h
  | .sl e, x, [], c, u, s, n, rest, c', h => by simp [outCells] at h
  | .bool, x, a :: cells, c, u, s, n, rest, c', h => by
    simp only [outCells, Option.some.injEq, Prod.mk.injEq] at h
    obtain ⟨rfl, rfl, rfl, rfl, rfl⟩ := h
    exact ⟨rfl, rfl⟩
  | .int k, x, a :: cells, c, u, s, n, rest, c', h => by
    simp only [outCells, Option.some.injEq, Prod.mk.injEq] at h
    obtain ⟨rfl, rfl, rfl, rfl, rfl⟩ := h
    exact ⟨rfl, rfl⟩
  | .flt k, x, a :: cells, c, u, s, n, rest, c', h => by
    simp only [outCells, Option.some.injEq, Prod.mk.injEq] at h
    obtain ⟨rfl, rfl, rfl, rfl, rfl⟩ := h
    exact ⟨rfl, rfl⟩
  | .str, x, a :: cells, c, u, s, n, rest, c', h => by
    simp only [outCells, Option.some.injEq, Prod.mk.injEq] at h
    obtain ⟨rfl, rfl, rfl, rfl, rfl⟩ := h
    exact ⟨rfl, rfl⟩
  | .sl e, x, a :: cells, c, u, s, n, rest, c', h => by
    simp only [outCells, Option.some.injEq, Prod.mk.injEq] at h
    obtain ⟨rfl, rfl, rfl, rfl, rfl⟩ := h
    exact ⟨rfl, rfl⟩

theorem putOuts_ids {E : Env} {g : View} : ∀ {ps : List PK} {as : List AV} {qs : List Prop} {x : PsT ps} {o : OsT ps} {c : Nat} {s n : Ents} {c' : Nat},
    getArgs E ps as g = some (qs, x) → putOuts ps o as g c = some (s, n, c') → s.map (·.1) = argsIds ps as g
  | [], [], qs, x, o, c, s, n, c', h, hp => by
    simp only [putOuts, Option.some.injEq, Prod.mk.injEq] at hp
    obtain ⟨rfl, rfl, rfl⟩ := hp
    rfl
  | [], _ :: _, qs, x, o, c, s, n, c', h, hp => by simp [getArgs] at h
  | _ :: _, [], qs, x, o, c, s, n, c', h, hp => by simp [getArgs] at h
  | p :: ps, a :: as, qs, x, o, c, s, n, c', h, hp => by
    simp only [getArgs] at h
    split at h
    · rename_i q1 x1 h1
      split at h
      · rename_i q2 x2 h2
        clear h
        cases p with
        | st k =>
          simp only [putOuts] at hp
          rw [putOuts_ids h2 hp]; rfl
        | ro k =>
          simp only [putOuts] at hp
          rw [putOuts_ids h2 hp]; rfl
        | fnp k k' =>
          simp only [putOuts] at hp
          rw [putOuts_ids h2 hp]; rfl
        | val k =>
          have plain : argIds (.val k) a g = [] → putOuts ps o as g c = some (s, n, c') → s.map (·.1) = argsIds (.val k :: ps) (a :: as) g := by
            intro h0 hp
            rw [putOuts_ids h2 hp]; simp only [argsIds, h0, List.nil_append]
          cases k with
          | own e =>
            cases a with
            | one a =>
              cases a with
              | osl e' id n0 =>
                simp only [putOuts] at hp
                split at hp
                · rename_i s1 n1 c1 hp1
                  simp only [Option.some.injEq, Prod.mk.injEq] at hp
                  obtain ⟨rfl, rfl, rfl⟩ := hp
                  simp [argsIds, argIds, putOuts_ids h2 hp1]
                · cases hp
              | _ => exact plain rfl hp
            | agg l => exact plain rfl hp
            | tup l => exact plain rfl hp
          | _ => exact plain (by cases a <;> rfl) hp
        | box k =>
          simp only [getArg] at h1
          unfold boxArg at h1
          split at h1
          · rename_i id
            split at h1
            · rename_i cells hid
              simp only [putOuts, hid] at hp
              split at hp
              · rename_i u s1 n1 c1 e1
                split at hp
                · rename_i s2 n2 c2 e2
                  simp only [Option.some.injEq, Prod.mk.injEq] at hp
                  obtain ⟨rfl, rfl, rfl⟩ := hp
                  simp only [List.map_append, List.map_cons, (outCells_ids e1).1, putOuts_ids h2 e2, argsIds, argIds, hid]
                · cases hp
              · cases hp
            · cases h1
          · cases h1
      · cases h
    · cases h

section
variable {C : Ctx} {m : Mem} {g : View} {E : Env} {U' : Addr → Prop} {w' : World} {T : Types} {c : Nat} {out : Out} {ρ : Operand → Value} {dst : Option Tmp} {type : TypeId} {pos : String} {after : Array Edge} {guard : Option (Nat × Bool)} {vs : List AV}

theorem mem_blkL {b id : Nat} (h : b ∈ blkL m id) : ∃ e, m.h id = some e ∧ blkOf (m.pl id) e = some b := by
  unfold blkL at h
  split at h
  · rename_i e he
    exact ⟨e, he, by simpa using h⟩
  · simp at h

theorem blkL_apart (hm : MemR C m) {i j b : Nat} (hi : b ∈ blkL m i) (hj : b ∈ blkL m j) : i = j := by
  obtain ⟨e1, h1, b1⟩ := mem_blkL hi
  obtain ⟨e2, h2, b2⟩ := mem_blkL hj
  exact hm.apart i j e1 e2 b h1 h2 b1 b2

theorem io_nodup (hm : MemR C m) : ∀ {ids : List Nat}, ids.Nodup → (ids.flatMap (blkL m)).Nodup
  | [], _ => List.nodup_nil
  | i :: ids, h => by
    rw [List.nodup_cons] at h
    rw [List.flatMap_cons, List.nodup_append]
    refine ⟨?_, io_nodup hm h.2, fun a ha b hb hab => ?_⟩
    · unfold blkL
      split
      · cases blkOf (m.pl i) _ <;> simp
      · exact List.nodup_nil
    · subst hab
      obtain ⟨j, hj, hbj⟩ := List.mem_flatMap.1 hb
      have := blkL_apart hm ha hbj
      subst this
      exact h.1 hj

theorem memR_bulk (hm : MemR C m) {m' : Mem} {L : Ents} {sids bs : List Nat} (hp : Post (sids.flatMap (blkL m)) m.U m.w m'.U m'.w) (hL : (L.map (·.1)).Nodup) (hh : m'.h = updE m.h L)
    (hent : ∀ p ∈ L, EntR C m' (m'.pl p.1) p.2) (hbs : (L.flatMap (blkAt m')).Perm bs) (hbn : bs.Nodup) (hnew : ∀ b ∈ bs, m.w.heap.size ≤ b ∨ b ∈ sids.flatMap (blkL m))
    (hext : ∀ p ∈ L, ∀ e0, m.h p.1 = some e0 → EntExt (m.pl p.1) (m'.pl p.1) e0 p.2) (hsid : ∀ id ∈ sids, id ∈ L.map (·.1)) (hpl : ∀ id, id ∉ L.map (·.1) → m'.pl id = m.pl id) :
    MemR C m' ∧ Ext C m m' := by
  have hio : ∀ b ∈ sids.flatMap (blkL m), C.w0.heap.size ≤ b ∨ b ∈ C.io := fun b hb => by
    obtain ⟨id, _, hbi⟩ := List.mem_flatMap.1 hb
    obtain ⟨e, he, hbe⟩ := mem_blkL hbi
    exact hm.where_ id e b he hbe
  have hin : ∀ p ∈ L, m'.h p.1 = some p.2 := fun p hpL => by rw [hh]; simp only [updE, get1_mem hL p hpL]
  have hout : ∀ id, id ∉ L.map (·.1) → m'.h id = m.h id := fun id hid => by rw [hh]; simp only [updE, get1_none hid]
  have hsome : ∀ id e, id ∈ L.map (·.1) → m'.h id = some e → (id, e) ∈ L := fun id e hid he => by
    obtain ⟨p, hpL, rfl⟩ := List.mem_map.1 hid
    have := hin p hpL
    rw [he] at this
    obtain rfl := Option.some.inj this
    exact hpL
  have hx : Ext C m m' := Ext.of_post hm hp hio (fun id e he => by
    by_cases hid : id ∈ L.map (·.1)
    · obtain ⟨p, hpL, rfl⟩ := List.mem_map.1 hid
      exact ⟨p.2, hin p hpL, hext p hpL e he⟩
    · exact ⟨e, (hout id hid).trans he, by rw [hpl id hid]; exact EntExt.refl _ _⟩)
  have hblk : ∀ p ∈ L, ∀ b, blkOf (m'.pl p.1) p.2 = some b → b ∈ bs := fun p hpL b hb => hbs.mem_iff.1 (List.mem_flatMap.2 ⟨p, hpL, by simp [blkAt, hb]⟩)
  have hold : ∀ id e b, id ∉ L.map (·.1) → m.h id = some e → blkOf (m.pl id) e = some b → b ∉ sids.flatMap (blkL m) ∧ b < m.w.heap.size := fun id e b hid he hb => by
    refine ⟨fun hin => ?_, hm.blk_lt he hb⟩
    obtain ⟨j, hj, hbj⟩ := List.mem_flatMap.1 hin
    obtain ⟨e2, h2, b2⟩ := mem_blkL hbj
    have := hm.apart id j e e2 b he h2 hb b2
    subst this
    exact hid (hsid id hj)
  refine ⟨⟨hm.post.step hp hio, fun id e he => ?_, fun i j e1 e2 b h1 h2 b1 b2 => ?_, fun id e b he hb => ?_⟩, hx⟩
  · by_cases hid : id ∈ L.map (·.1)
    · exact hent _ (hsome id e hid he)
    · rw [hout id hid] at he
      rw [hpl id hid]
      refine EntR_keep hx (hm.ents id e he) (fun b hb => ?_)
      obtain ⟨q1, q2⟩ := hold id e b hid he hb
      refine ⟨hp.frame b q2 q1, fun a ha hu => ?_⟩
      rcases hp.new a hu with h | h | h
      · exact h
      · omega
      · rw [ha] at h; exact absurd h q1
  · by_cases hi : i ∈ L.map (·.1)
    · have hiL := hsome i e1 hi h1
      by_cases hj : j ∈ L.map (·.1)
      · have hjL := hsome j e2 hj h2
        have := nodup_flatMap_eq (hbs.nodup_iff.2 hbn) hiL hjL (x := b) (by simp [blkAt, b1]) (by simp [blkAt, b2])
        exact congrArg Prod.fst this
      · rw [hout j hj] at h2
        rw [hpl j hj] at b2
        obtain ⟨q1, q2⟩ := hold j e2 b hj h2 b2
        rcases hnew b (hblk _ hiL b b1) with h | h
        · omega
        · exact absurd h q1
    · rw [hout i hi] at h1
      rw [hpl i hi] at b1
      obtain ⟨q1, q2⟩ := hold i e1 b hi h1 b1
      by_cases hj : j ∈ L.map (·.1)
      · rcases hnew b (hblk _ (hsome j e2 hj h2) b b2) with h | h
        · omega
        · exact absurd h q1
      · rw [hout j hj] at h2
        rw [hpl j hj] at b2
        exact hm.apart i j e1 e2 b h1 h2 b1 b2
  · by_cases hid : id ∈ L.map (·.1)
    · have hs := hm.post.size
      rcases hnew b (hblk _ (hsome id e hid he) b hb) with h | h
      · exact .inl (by omega)
      · exact hio b h
    · rw [hout id hid] at he
      rw [hpl id hid] at hb
      exact hm.where_ id e b he hb

theorem memR_post (hm : MemR C m) {U' : Addr → Prop} {w' : World} (hp : Post [] m.U m.w U' w') : MemR C ⟨U', m.pl, m.h, w'⟩ ∧ Ext C m ⟨U', m.pl, m.h, w'⟩ :=
  memR_bulk hm (m' := ⟨U', m.pl, m.h, w'⟩) (L := []) (sids := []) (bs := []) hp List.nodup_nil (updE_nil _).symm (fun p hp => by simp at hp) (.refl _) List.nodup_nil (fun b hb => by simp at hb) (fun p hp => by simp at hp) (fun id hid => by simp at hid) (fun _ _ => rfl)

theorem avOfRes_sound {m' : Mem} {rr : List (Bool × List AV1)} {rvs : List Value} (h : TLs C m' rr rvs) : AVR C m' (avOfRes rr) (valOf rvs) := by
  match rr, rvs, h with
  | [], [], _ => exact ⟨#[], rfl, trivial⟩
  | [r], [v], h =>
    obtain ⟨h, _⟩ := h
    obtain ⟨b, cells⟩ := r
    cases b with
    | true =>
      obtain ⟨cs, hv, hc⟩ := h
      exact ⟨cs, hv, hc⟩
    | false =>
      match cells, h with
      | [], _ => exact trivial
      | [a], h => exact avr_of_one h
      | _ :: _ :: _, _ => exact trivial
  | a :: b :: r, u :: v :: l, h =>
    exact ⟨(u :: v :: l).toArray, rfl, h⟩
  | [_], _ :: _ :: _, h => exact h.2.elim
  | _ :: _ :: _, [_], h => exact h.2.elim
  | [], _ :: _, h => exact h.elim
  | _ :: _, [], h => exact h.elim

theorem disj_out {a b : List Nat} (h : disj a b = true) {i : Nat} (ha : i ∈ a) (hb : i ∈ b) : False := by
  unfold disj at h
  rw [List.all_eq_true] at h
  have := h i ha
  have hm : ∀ {l : List Nat}, i ∈ l → memN i l = true := fun {l} => by
    induction l with
    | nil => intro h; simp at h
    | cons j l ih =>
      intro h
      rcases List.mem_cons.1 h with rfl | h
      · simp [memN]
      · simp [memN, ih h]
  rw [hm hb] at this
  simp at this

theorem call_after (hm : MemR C m) {fs : FSpec} {args : PsT fs.ps} {s n : Ents} {c' : Nat} {U' : Addr → Prop} {w' : World} {rvs : List Value} {b1 b2 : List Nat} {sids : List Nat} {p1 : List (Nat × Place)}
    (hP : Post (sids.flatMap (blkL m)) m.U m.w U' w') (hres : ResL U' w' fs.rs (fs.fn args).1 rvs b1) (f1 : Fits C U' w' (s ++ n) p1 b2 (fun m' => ExtOf m m' s)) (hnd : (b1 ++ b2).Nodup) (hnew : ∀ b ∈ b1 ++ b2, m.w.heap.size ≤ b ∨ b ∈ sids.flatMap (blkL m))
    (hsub : ∀ id ∈ sids, id ∈ s.map (·.1)) (hn : ∀ p ∈ n ++ (newRess fs.rs (fs.fn args).1 c').2, m.h p.1 = none) (hd : ((s ++ (n ++ (newRess fs.rs (fs.fn args).1 c').2)).map (·.1)).Nodup) :
    After C m (avOfRes (newRess fs.rs (fs.fn args).1 c').1) (s ++ (n ++ (newRess fs.rs (fs.fn args).1 c').2)) (valOf rvs) w' := by
  obtain ⟨p2, f2⟩ := newRess_fits (C := C) c' hres
  have f3 := f1.app f2 (Q := fun m' => ExtOf m m' s ∧ TLs C m' (newRess fs.rs (fs.fn args).1 c').1 rvs) fun m' _ _ q1 q2 => ⟨q1, q2⟩
  have f4 := f3.perm (e2 := s ++ (n ++ (newRess fs.rs (fs.fn args).1 c').2)) (by rw [List.append_assoc]) (fun _ h => h)
  have hkn : ((p1 ++ p2).map (·.1)).Nodup := f4.keys.nodup_iff.2 hd
  obtain ⟨m', hm'⟩ : ∃ m' : Mem, m' = ⟨U', fun id => (get1 (p1 ++ p2) id).getD (m.pl id), updE m.h (s ++ (n ++ (newRess fs.rs (fs.fn args).1 c').2)), w'⟩ := ⟨_, rfl⟩
  have hin : ∀ p ∈ s ++ (n ++ (newRess fs.rs (fs.fn args).1 c').2), m'.h p.1 = some p.2 := fun p hpL => by rw [hm']; simp only [updE, get1_mem hd p hpL]
  have hpl : ∀ p ∈ p1 ++ p2, m'.pl p.1 = p.2 := fun p hpL => by rw [hm']; simp only [get1_mem hkn p hpL, Option.getD_some]
  obtain ⟨k1, k2, k3, k4⟩ := f4.fits m' (by rw [hm']) (by rw [hm']) hin hpl
  have hb12 : (b1 ++ b2).Perm (b2 ++ b1) := List.perm_append_comm
  obtain ⟨r1, r2⟩ := memR_bulk hm (m' := m') (L := s ++ (n ++ (newRess fs.rs (fs.fn args).1 c').2)) (sids := sids) (bs := b2 ++ b1) (by rw [hm']; exact hP) hd (by rw [hm']) k1 k2 (hb12.nodup_iff.1 hnd)
    (fun b hb => hnew b (hb12.mem_iff.2 hb))
    (fun p hpL e0 he0 => by
      rcases List.mem_append.1 hpL with hps | hpn
      · obtain ⟨e1, he1, hx⟩ := k3 p hps
        rw [he0] at he1
        obtain rfl := Option.some.inj he1
        exact hx
      · rw [hn p hpn] at he0; cases he0)
    (fun id hid => by rw [List.map_append]; exact List.mem_append.2 (.inl (hsub id hid)))
    (fun id hid => by
      rw [hm']
      have : id ∉ (p1 ++ p2).map (·.1) := fun h => hid (f4.keys.mem_iff.1 h)
      simp only [get1_none this, Option.getD_none])
  subst hm'
  exact ⟨U', _, r1, r2, avOfRes_sound k4⟩

theorem callSpec_sound (hE : EnvOK C.P E) (hm : MemR C m) (hg : ViewOK g m.h) {f : FuncId} {fs : FSpec} (hf : E f = some fs) {us : List Value} (hvs : VRs C m vs us) (h : callSpec E fs vs g c = some out) (hp : ∀ p ∈ out.ps, p)
    (hn : ∀ p ∈ out.news, m.h p.1 = none) (hd : ((out.sets ++ out.news).map (·.1)).Nodup) :
    CallOK C.P f us.toArray m.w fun v w' => After C m out.av (out.sets ++ out.news) v w' := by
  unfold callSpec at h
  split at h
  · rename_i qs args hargs
    simp only at h
    split at h
    · rename_i s n c' hpo
      split at h
      · rename_i hro
        obtain rfl := Option.some.inj h
        simp only at hp hn hd ⊢
        have hs1 : s.map (·.1) = argsIds fs.ps vs g := putOuts_ids hargs hpo
        have hio : ∀ b ∈ (argsIds fs.ps vs g).flatMap (blkL m), C.w0.heap.size ≤ b ∨ b ∈ C.io := fun b hb => by
          obtain ⟨id, _, hbi⟩ := List.mem_flatMap.1 hb
          obtain ⟨e, he, hbe⟩ := mem_blkL hbi
          exact hm.where_ id e b he hbe
        have hA := getArgs_sound hE hm hg hio hargs (fun q hq => hp q (by simp [hq])) hvs (fun id hid b hb hbi => by
          obtain ⟨j, hj, hbj⟩ := List.mem_flatMap.1 hbi
          have := blkL_apart hm hb hbj
          subst this
          rw [← hs1] at hj
          exact disj_out hro hid hj)
        have hsn : (argsIds fs.ps vs g).Nodup := by
          rw [← hs1]
          rw [List.map_append] at hd
          exact (List.nodup_append.1 hd).1
        have hcall := hE f fs hf m.U m.w us args _ hm.post.bound hA (io_nodup hm hsn) (fun p hpp => hp p (by simp [hpp]))
        refine CallOK.mono hcall ?_
        rintro v w' ⟨U', rvs, b1, b2, hP, rfl, hres, houts, hnd, hnew⟩
        obtain ⟨⟨p1, f1⟩, _⟩ := putOuts_fits hm hg hargs hpo hvs houts
        exact call_after hm hP hres f1 hnd hnew (fun id hid => by rw [hs1]; exact hid) hn hd
      · cases h
    · cases h
  · cases h

/- lending -/
theorem CR_flat {U U' : Addr → Prop} {w : World} : ∀ {k : Kd} {x : k.T} {l : List Value}, k.flat = true → CR U w k x l → CR U' w k x l
  | .unit, _, _, _, h => h
  | .bool, _, _, _, h => h
  | .int _, _, _, _, h => h
  | .flt _, _, _, _, h => h
  | .str, _, _, _, h => h
  | .pair a b, x, l, hf, h => by
    simp only [Kd.flat, Bool.and_eq_true] at hf
    obtain ⟨l1, l2, hl, h1, h2⟩ := h
    exact ⟨l1, l2, hl, CR_flat hf.1 h1, CR_flat hf.2 h2⟩

theorem TR_flat {U U' : Addr → Prop} {w : World} : ∀ {k : Kd} {x : k.T} {l : List Value} {bs : List Nat}, k.flat = true → TR U w k x l bs → TR U' w k x l bs
  | .unit, _, _, _, _, h => h
  | .bool, _, _, _, _, h => h
  | .int _, _, _, _, _, h => h
  | .flt _, _, _, _, _, h => h
  | .str, _, _, _, _, h => h
  | .pair a b, x, l, bs, hf, h => by
    simp only [Kd.flat, Bool.and_eq_true] at hf
    obtain ⟨l1, l2, b1, b2, hl, hb, h1, h2⟩ := h
    exact ⟨l1, l2, b1, b2, hl, hb, TR_flat hf.1 h1, TR_flat hf.2 h2⟩

theorem BoxAt_flat {U U' : Addr → Prop} {w : World} {k : Kd} {x : k.T} {g : Nat} {bs : List Nat} (hf : k.flat = true) (hU : ∀ a, U' a → U a) (h : BoxAt U w k x g bs) : BoxAt U' w k x g bs := by
  obtain ⟨cs, ty, h1, h2, h3⟩ := h
  exact ⟨cs, ty, h1, TR_flat hf h2, fun a ha hu => h3 a ha (hU a hu)⟩

theorem ResL_flat {U U' : Addr → Prop} {w : World} (hU : ∀ a, U' a → U a) : ∀ {rs : List RK} {x : RsT rs} {vs : List Value} {bs : List Nat}, rs.all RK.flat = true → ResL U w rs x vs bs → ResL U' w rs x vs bs
  | [], _, _, _, _, h => h
  | r :: rs, x, vs, bs, hf, h => by
    simp only [List.all_cons, Bool.and_eq_true] at hf
    obtain ⟨v, l, b1, b2, hv, hb, h1, h2⟩ := h
    refine ⟨v, l, b1, b2, hv, hb, ?_, ResL_flat hU hf.2 h2⟩
    cases r with
    | one k => exact ⟨h1.1, TR_flat hf.1 h1.2⟩
    | st k => obtain ⟨cs, hc, ht⟩ := h1; exact ⟨cs, hc, TR_flat hf.1 ht⟩
    | nb k => obtain ⟨g, bs', hc, ht, hbs⟩ := h1; exact ⟨g, bs', hc, BoxAt_flat hf.1 hU ht, hbs⟩

theorem OutsR_flat {U U' : Addr → Prop} {w : World} (hU : ∀ a, U' a → U a) : ∀ {ps : List PK} {x : OsT ps} {vs : List Value} {bs : List Nat}, ps.all PK.flat = true → OutsR U w ps x vs bs → OutsR U' w ps x vs bs
  | [], _, _, _, _, h => h
  | .box k :: ps, x, vs, bs, hf, h => by
    simp only [List.all_cons, Bool.and_eq_true] at hf
    obtain ⟨g, r, b1, b2, hv, hb, h1, h2⟩ := h
    exact ⟨g, r, b1, b2, hv, hb, BoxAt_flat hf.1 hU h1, OutsR_flat hU hf.2 h2⟩
  | .val _ :: ps, x, vs, bs, hf, h => by
    simp only [List.all_cons, Bool.and_eq_true] at hf
    obtain ⟨v, r, hv, h2⟩ := h
    exact ⟨v, r, hv, OutsR_flat hU hf.2 h2⟩
  | .st _ :: ps, x, vs, bs, hf, h => by
    simp only [List.all_cons, Bool.and_eq_true] at hf
    obtain ⟨v, r, hv, h2⟩ := h
    exact ⟨v, r, hv, OutsR_flat hU hf.2 h2⟩
  | .ro _ :: ps, x, vs, bs, hf, h => by
    simp only [List.all_cons, Bool.and_eq_true] at hf
    obtain ⟨v, r, hv, h2⟩ := h
    exact ⟨v, r, hv, OutsR_flat hU hf.2 h2⟩
  | .fnp _ _ :: ps, x, vs, bs, hf, h => by
    simp only [List.all_cons, Bool.and_eq_true] at hf
    obtain ⟨v, r, hv, h2⟩ := h
    exact ⟨v, r, hv, OutsR_flat hU hf.2 h2⟩

/-- A call that only reads what is lent. -/
theorem sound_flat {P : Program} {f : FuncId} {fs : FSpec} (h : Sound P f fs) (hfp : fs.ps.all PK.flat = true) (hfr : fs.rs.all RK.flat = true) {U Ul : Addr → Prop} {w : World} {vs : List Value} {args : PsT fs.ps} {io : List Nat}
    (hsub : ∀ a, U a → Ul a) (hb : ∀ a, Ul a → a.spot = none ∧ a.block < w.heap.size) (hA : ArgsR P io Ul w fs.ps args vs io) (hio : io.Nodup) (hp : ∀ p ∈ fs.pre args, p) :
    CallOK P f vs.toArray w fun v w' => ∃ U' rvs b1 b2, Post io U w U' w' ∧ v = valOf rvs ∧ ResL U' w' fs.rs (fs.fn args).1 rvs b1 ∧ OutsR U' w' fs.ps (fs.fn args).2 vs b2 ∧
      (b1 ++ b2).Nodup ∧ ∀ b ∈ b1 ++ b2, w.heap.size ≤ b ∨ b ∈ io := by
  refine (h Ul w vs args io hb hA hio hp).mono ?_
  rintro v w' ⟨U', rvs, b1, b2, hP, hv, hr, ho, hn, hw⟩
  refine ⟨fun a => U' a ∧ (Ul a → U a), rvs, b1, b2, ⟨fun a ha => ⟨hP.sub a (hsub a ha), fun _ => ha⟩, fun a ha => hP.same a (hsub a ha), hP.frame, hP.size, fun a ha => hP.bound a ha.1, fun a ha => ?_, hP.os, hP.tape, hP.output⟩, hv, ResL_flat (fun a ha => ha.1) hfr hr, OutsR_flat (fun a ha => ha.1) hfp ho, hn, hw⟩
  rcases hP.new a ha.1 with h1 | h1
  · exact .inl (ha.2 h1)
  · exact .inr h1

/-- Memory in which the elements of some arrays stay. -/
def lentMem (ids : List Nat) (m : Mem) : Mem :=
  ⟨fun a => m.U a ∨ ∃ id ∈ ids, ∃ e n xs, m.h id = some (.arr e n xs) ∧ a.block = (m.pl id).g ∧ a.spot = none ∧ a.off < n * e.sz, m.pl, fzView ids m.h, m.w⟩

theorem memN_iff {i : Nat} : ∀ {l : List Nat}, memN i l = true ↔ i ∈ l
  | [] => by simp [memN]
  | j :: l => by
    by_cases h : i = j
    · subst h; simp [memN]
    · simp [memN, nbeq_ne h, h, memN_iff (l := l)]

theorem fzView_some {ids : List Nat} {h : View} {id : Nat} {e : Ent} (he : fzView ids h id = some e) : id ∉ ids ∧ ∃ e0, h id = some e0 ∧ e = fzEnt ids h e0 := by
  unfold fzView at he
  split at he
  · cases he
  · rename_i hc
    cases h0 : h id with
    | none => rw [h0] at he; cases he
    | some e0 =>
      rw [h0] at he
      exact ⟨fun hin => hc (memN_iff.2 hin), e0, rfl, (Option.some.inj he).symm⟩

theorem fzView_in {ids : List Nat} {h : View} {id : Nat} {e0 : Ent} (hid : id ∉ ids) (he : h id = some e0) : fzView ids h id = some (fzEnt ids h e0) := by
  unfold fzView
  rw [if_neg (fun hc => hid (memN_iff.1 hc)), he]
  rfl

theorem arr_cr (hm : MemR C m) {ids : List Nat} {id : Nat} (hid : id ∈ ids) {e : Kd} {n : Nat} {xs : List e.T} (h : m.h id = some (.arr e n xs)) {lo k c : Nat} (hle : lo + k ≤ n) (hc : k ≤ c) {A : Option Addr} (hA : 0 < k → A = some ⟨(m.pl id).g, lo * e.sz, none⟩) :
    CR (lentMem ids m).U m.w (.sl e) ((xs.drop lo).take k) [.slice A k c] := by
  obtain ⟨hlen, cs, ty, hh, hcs, hx, _⟩ := hm.ents id _ h
  have hl : ((xs.drop lo).take k).length = k := by simp; omega
  refine ⟨A, c, by rw [hl], by omega, fun i hi => ?_⟩
  rw [hl] at hi
  have hin : lo + i < xs.length := by omega
  have hR := hx (lo + i) hin
  have hm1 : (lo + i + 1) * e.sz ≤ n * e.sz := Nat.mul_le_mul_right _ (by omega)
  rw [Nat.add_mul, Nat.one_mul] at hm1
  refine ⟨_, (cs.toList.drop ((lo + i) * e.sz)).take e.sz, hA (by omega), by simp; omega, fun j hj => ⟨?_, ?_⟩, ?_⟩
  · rw [Addr.add_mk]
    refine .inr ⟨id, hid, e, n, xs, h, rfl, rfl, ?_⟩
    show lo * e.sz + (i * e.sz + j) < n * e.sz
    rw [Nat.add_mul] at hm1; omega
  · rw [Addr.add_mk, cell_blk hh, List.getElem?_take_of_lt hj, List.getElem?_drop, Array.getElem?_toList, Nat.add_mul, Nat.add_assoc]
  · have e1 : ((xs.drop lo).take k)[i]'(by rw [hl]; exact hi) = xs[lo + i] := by simp
    rw [e1]
    exact CR.mono (fun a ha => .inl ha) (fun a _ => rfl) hR

theorem isArr_iff {h : View} {id : Nat} (hi : isArr h id = true) : ∃ e n xs, h id = some (.arr e n xs) := by
  unfold isArr at hi
  split at hi
  · exact ⟨_, _, _, by assumption⟩
  · cases hi

theorem fz1_sound (hm : MemR C m) {ids : List Nat} (harr : ∀ id ∈ ids, isArr m.h id = true) {a : AV1} {v : Value} (h : AVR1 C m a v) : AVR1 C (lentMem ids m) (fz1 ids m.h a) v := by
  have hout : ∀ {id : Nat} {e : Ent}, m.h id = some e → (∀ k n xs, e ≠ .arr k n xs) → (lentMem ids m).h id = some (fzEnt ids m.h e) := fun {id e} he hne => fzView_in (fun hin => by
    obtain ⟨k, n, xs, h2⟩ := isArr_iff (harr _ hin)
    rw [he] at h2
    exact hne k n xs (Option.some.inj h2)) he
  have hgone : ∀ {id : Nat}, Gone m id → Gone (lentMem ids m) id := fun {id} ⟨e, xs, h⟩ => ⟨e, xs, hout h (fun _ _ _ h => by cases h)⟩
  have hin : ∀ {id : Nat} {e : Ent}, memN id ids = false → m.h id = some e → (lentMem ids m).h id = some (fzEnt ids m.h e) := fun {id e} hid he => fzView_in (fun h => by rw [memN_iff.2 h] at hid; cases hid) he
  cases a with
  | d k x => exact CR.mono (fun a ha => .inl ha) (fun a _ => rfl) h
  | osl e id n =>
    obtain ⟨A, c, hv, e', xs, hx⟩ := h
    refine ⟨A, c, hv, e', xs, ?_⟩
    rcases hx with ⟨h1, h2, h3⟩ | h1
    · exact .inl ⟨hout h1 (fun _ _ _ h => by cases h), h2, h3⟩
    · exact .inr (hout h1 (fun _ _ _ h => by cases h))
  | nilsl => exact h
  | ptr id off =>
    cases hid : memN id ids with
    | true =>
      rw [show fz1 ids m.h (.ptr id off) = .any by simp [fz1, hid]]
      trivial
    | false =>
      rw [show fz1 ids m.h (.ptr id off) = .ptr id off by simp [fz1, hid]]
      obtain ⟨hv, hor⟩ := h
      refine ⟨hv, ?_⟩
      rcases hor with ⟨cells, q⟩ | ⟨e, k, xs, q⟩ | q
      · exact .inl ⟨_, hin hid q⟩
      · exact .inr (.inl ⟨_, _, _, hin hid q⟩)
      · exact .inr (.inr (hgone q))
  | eptr id i off =>
    cases hid : memN id ids with
    | true =>
      rw [show fz1 ids m.h (.eptr id i off) = .any by simp [fz1, hid]]
      trivial
    | false =>
      rw [show fz1 ids m.h (.eptr id i off) = .eptr id i off by simp [fz1, hid]]
      obtain ⟨ad, hv, hor⟩ := h
      refine ⟨ad, hv, ?_⟩
      rcases hor with ⟨e, n, xs, q, hA⟩ | q
      · exact .inl ⟨e, n, xs, hin hid q, hA⟩
      · exact .inr (hgone q)
  | cptr k x =>
    obtain ⟨a, l, hv, hc, hj⟩ := h
    refine ⟨a, l, hv, CR.mono (fun a ha => .inl ha) (fun a _ => rfl) hc, fun j hjl => ⟨?_, (hj j hjl).2⟩⟩
    rcases (hj j hjl).1 with h1 | h1
    · exact .inl (.inl h1)
    · exact .inr h1
  | msl id =>
    cases hid : memN id ids with
    | true =>
      obtain ⟨e, n, xs, q⟩ := isArr_iff (harr _ (memN_iff.1 hid))
      obtain ⟨c, hc, hv⟩ := msl_arr h q
      rw [show fz1 ids m.h (.msl id) = .d (.sl e) xs by simp [fz1, hid, q]]
      subst hv
      have hxs : xs.length = n := (hm.ents id _ q).1
      have := arr_cr hm (memN_iff.1 hid) q (lo := 0) (k := n) (c := c) (by omega) hc (A := some ⟨(m.pl id).g, 0, none⟩) (fun _ => by simp)
      rw [List.drop_zero, List.take_of_length_le (by omega)] at this
      exact this
    | false =>
      rw [show fz1 ids m.h (.msl id) = .msl id by simp [fz1, hid]]
      obtain ⟨A, n, c, hv, hor⟩ := h
      refine ⟨A, n, c, hv, ?_⟩
      rcases hor with ⟨e, xs, q, hc, hA⟩ | q
      · exact .inl ⟨e, xs, hin hid q, hc, hA⟩
      · exact .inr (hgone q)
  | msb id lo n =>
    cases hid : memN id ids with
    | true =>
      obtain ⟨e, N, xs, q⟩ := isArr_iff (harr _ (memN_iff.1 hid))
      obtain ⟨hle, A, c, hc, hv, hA⟩ := msb_arr h q
      rw [show fz1 ids m.h (.msb id lo n) = .d (.sl e) ((xs.drop lo).take n) by simp [fz1, hid, q]]
      subst hv
      exact arr_cr hm (memN_iff.1 hid) q hle hc hA
    | false =>
      rw [show fz1 ids m.h (.msb id lo n) = .msb id lo n by simp [fz1, hid]]
      obtain ⟨A, c, hv, hor⟩ := h
      refine ⟨A, c, hv, ?_⟩
      rcases hor with ⟨e, N, xs, q, hle, hc, hA⟩ | q
      · exact .inl ⟨e, N, xs, hin hid q, hle, hc, hA⟩
      · exact .inr (hgone q)
  | clo f caps =>
    cases hd : disj caps ids with
    | false =>
      rw [show fz1 ids m.h (.clo f caps) = .any by simp [fz1, hd]]
      trivial
    | true =>
      rw [show fz1 ids m.h (.clo f caps) = .clo f caps by simp [fz1, hd]]
      obtain ⟨hv, hor⟩ := h
      refine ⟨hv, fun id hid => ?_⟩
      have hn : memN id ids = false := by
        cases hx : memN id ids with
        | false => rfl
        | true => exact (disj_out hd hid (memN_iff.1 hx)).elim
      rcases hor id hid with ⟨cells, q⟩ | ⟨e, k, xs, q⟩ | q
      · exact .inl ⟨_, hin hn q⟩
      · exact .inr (.inl ⟨_, _, _, hin hn q⟩)
      · exact .inr (.inr (hgone q))
  | fnv a r p => exact h
  | nilp => exact h
  | pb p => exact h
  | any => trivial

theorem fzs_sound (hm : MemR C m) {ids : List Nat} (harr : ∀ id ∈ ids, isArr m.h id = true) : ∀ {l : List AV1} {vs : List Value}, CLs C m l vs → CLs C (lentMem ids m) (l.map (fz1 ids m.h)) vs
  | [], [], _ => trivial
  | a :: l, v :: vs, h => ⟨⟨h.1.1, fz1_sound hm harr h.1.2⟩, fzs_sound hm harr h.2⟩
  | [], _ :: _, h => h.elim
  | _ :: _, [], h => h.elim

theorem fzAV_sound (hm : MemR C m) {ids : List Nat} (harr : ∀ id ∈ ids, isArr m.h id = true) {a : AV} {v : Value} (h : AVR C m a v) : AVR C (lentMem ids m) (fzAV ids m.h a) v := by
  cases a with
  | one x =>
    by_cases hx : x = .any
    · subst hx; trivial
    · obtain ⟨q1, q2⟩ := avr_one h hx
      exact avr_of_one ⟨q1, fz1_sound hm harr q2⟩
  | agg l =>
    obtain ⟨cs, hv, hc⟩ := h
    exact ⟨cs, hv, fzs_sound hm harr hc⟩
  | tup l => trivial

theorem fzVRs_sound (hm : MemR C m) {ids : List Nat} (harr : ∀ id ∈ ids, isArr m.h id = true) : ∀ {as : List AV} {vs : List Value}, VRs C m as vs → VRs C (lentMem ids m) (as.map (fzAV ids m.h)) vs
  | [], [], _ => trivial
  | a :: l, v :: vs, h => ⟨fzAV_sound hm harr h.1, fzVRs_sound hm harr h.2⟩
  | [], _ :: _, h => h.elim
  | _ :: _, [], h => h.elim

theorem blkOf_fz {ids : List Nat} {h : View} {pl : Place} {e : Ent} : blkOf pl (fzEnt ids h e) = blkOf pl e := by cases e <;> rfl

theorem lent_mem (hm : MemR C m) {ids : List Nat} (harr : ∀ id ∈ ids, isArr m.h id = true) : MemR C (lentMem ids m) := by
  have hw : ∀ {id : Nat} {e : Kd} {n : Nat} {xs : List e.T}, m.h id = some (.arr e n xs) → (m.pl id).g < m.w.heap.size ∧ (C.w0.heap.size ≤ (m.pl id).g ∨ (m.pl id).g ∈ C.io) := fun {id e n xs} h => by
    obtain ⟨_, cs, ty, hh, _⟩ := hm.ents id _ h
    exact ⟨lt_of_heap hh, hm.where_ id _ _ h rfl⟩
  refine ⟨⟨fun a ha => .inl (hm.post.sub a ha), hm.post.same, hm.post.frame, hm.post.size, fun a ha => ?_, fun a ha => ?_, hm.post.os, hm.post.tape, hm.post.output⟩, fun id e he => ?_, fun i j e e' b h1 h2 b1 b2 => ?_, fun id e b he hb => ?_⟩
  · rcases ha with ha | ⟨id, _, e, n, xs, h1, h2, h3, _⟩
    · exact hm.post.bound a ha
    · exact ⟨h3, by rw [h2]; exact (hw h1).1⟩
  · rcases ha with ha | ⟨id, _, e, n, xs, h1, h2, h3, _⟩
    · exact hm.post.new a ha
    · rw [h2]; exact .inr (hw h1).2
  · obtain ⟨hni, e0, h0, rfl⟩ := fzView_some he
    have hE := hm.ents id e0 h0
    have hapart : ∀ {g : Nat}, blkOf (m.pl id) e0 = some g → ∀ a : Addr, a.block = g → (lentMem ids m).U a → m.U a := fun {g} hb a ha hu => by
      rcases hu with hu | ⟨id', hin, e, n, xs, h1, h2, _, _⟩
      · exact hu
      · have := hm.apart id id' _ _ g h0 h1 hb (by rw [← ha, h2]; rfl)
        subst this
        exact absurd hin hni
    cases e0 with
    | box cells =>
      obtain ⟨cs, ty, q1, q2, q3⟩ := hE
      exact ⟨cs, ty, q1, fzs_sound hm harr q2, fun a ha hu => q3 a ha (hapart rfl a ha hu)⟩
    | arr e n xs =>
      obtain ⟨q0, cs, ty, q1, q2, q3, q4⟩ := hE
      exact ⟨q0, cs, ty, q1, q2, fun i hi => CR.mono (fun a ha => .inl ha) (fun a _ => rfl) (q3 i hi), fun a ha hu => q4 a ha (hapart rfl a ha hu)⟩
    | frz e n xs => trivial
    | vec e xs =>
      rcases hE with hE | ⟨q0, q1, q2, q3, q4, q5⟩
      · exact .inl hE
      · have hb : blkOf (m.pl id) (.vec e xs) = some (m.pl id).g := by simp [blkOf]; omega
        refine .inr ⟨q0, q1, q2, q3, fun a ha => ⟨fun hu => (q4 a ha).1 (hapart hb a ha hu), fun hx => .inl ((q4 a ha).2 hx)⟩, fun i hi => ?_⟩
        obtain ⟨ad, l, k1, k2, k3, k4⟩ := q5 i hi
        exact ⟨ad, l, k1, k2, fun j hj => ⟨.inl (k3 j hj).1, (k3 j hj).2⟩, CR.mono (fun a ha => .inl ha) (fun a _ => rfl) k4⟩
  · obtain ⟨_, e1, h1', rfl⟩ := fzView_some h1
    obtain ⟨_, e2, h2', rfl⟩ := fzView_some h2
    exact hm.apart i j e1 e2 b h1' h2' (by rw [← blkOf_fz (ids := ids) (h := m.h)]; exact b1) (by rw [← blkOf_fz (ids := ids) (h := m.h)]; exact b2)
  · obtain ⟨_, e1, h1', rfl⟩ := fzView_some he
    exact hm.where_ id e1 b h1' (by rw [← blkOf_fz (ids := ids) (h := m.h)]; exact hb)

theorem fz1_view {ids : List Nat} {g h : View} (hids : ∀ id ∈ ids, g id = h id) : ∀ a, fz1 ids g a = fz1 ids h a := by
  intro a
  have key : ∀ {id : Nat}, memN id ids = true → g id = h id := fun hid => hids _ (memN_iff.1 hid)
  cases a <;> simp only [fz1]
  all_goals
    split
    · rename_i hc; rw [key hc]
    · rfl

theorem Post.grow {io io' : List Nat} {U U' : Addr → Prop} {w w' : World} (h : Post io U w U' w') (hio : ∀ b ∈ io, b ∈ io') : Post io' U w U' w' :=
  ⟨h.sub, h.same, fun g hg hn => h.frame g hg (fun hin => hn (hio g hin)), h.size, h.bound, fun a ha => (h.new a ha).imp_right (·.imp_right (hio _)), h.os, h.tape, h.output⟩

theorem dedupN_sub : ∀ {l : List Nat} {i : Nat}, i ∈ dedupN l → i ∈ l
  | [], i, h => by simp [dedupN] at h
  | j :: l, i, h => by
    simp only [dedupN] at h
    split at h
    · exact List.mem_cons_of_mem _ (dedupN_sub h)
    · rcases List.mem_cons.1 h with rfl | h
      · exact List.mem_cons_self ..
      · exact List.mem_cons_of_mem _ (dedupN_sub h)

theorem dedupN_sup : ∀ {l : List Nat} {i : Nat}, i ∈ l → i ∈ dedupN l
  | j :: l, i, h => by
    simp only [dedupN]
    split
    · rename_i hm
      rcases List.mem_cons.1 h with rfl | h
      · exact dedupN_sup (memN_iff.1 hm)
      · exact dedupN_sup h
    · rcases List.mem_cons.1 h with rfl | h
      · exact List.mem_cons_self ..
      · exact List.mem_cons_of_mem _ (dedupN_sup h)

theorem Post.give {io io' : List Nat} {U Ul U' : Addr → Prop} {w w' : World} (h : Post io Ul w U' w') (hsub : ∀ a, U a → Ul a) (hio : ∀ b ∈ io, b ∈ io') (hl : ∀ a, Ul a → U a ∨ a.block ∈ io') : Post io' U w U' w' :=
  ⟨fun a ha => h.sub a (hsub a ha), fun a ha => h.same a (hsub a ha), fun g hg hn => h.frame g hg (fun hin => hn (hio g hin)), h.size, h.bound,
    fun a ha => (h.new a ha).elim (fun h1 => (hl a h1).imp_right .inr) fun h1 => .inr (h1.imp_right (hio _)), h.os, h.tape, h.output⟩

theorem give_fits : ∀ {l : List Nat}, (∀ id ∈ l, isArr m.h id = true) → Fits C U' w' (l.map fun id => ((id, .frz .unit 1 []) : Nat × Ent)) (l.map fun id => (id, m.pl id)) [] (fun m' => ExtOf m m' (l.map fun id => (id, .frz .unit 1 [])))
  | [], _ => Fits.nil fun _ _ _ p hp => by simp at hp
  | i :: l, h => by
    have f := give_fits (l := l) (fun id hid => h id (by simp [hid]))
    refine ⟨by simp [Function.comp_def], fun m' hU hw he hp => ⟨fun q hq => ?_, ?_, fun q hq => ?_⟩⟩
    · obtain ⟨id, _, rfl⟩ := List.mem_map.1 hq
      trivial
    · have : ((i :: l).map fun id => ((id, .frz .unit 1 []) : Nat × Ent)).flatMap (blkAt m') = [] := by
        rw [List.flatMap_eq_nil_iff]
        intro q hq
        obtain ⟨id, _, rfl⟩ := List.mem_map.1 hq
        simp [blkAt, blkOf]
      rw [this]
    · obtain ⟨id, hid, rfl⟩ := List.mem_map.1 hq
      obtain ⟨e, n, xs, hx⟩ := isArr_iff (h id hid)
      refine ⟨_, hx, rfl, ?_⟩
      have := hp (id, m.pl id) (List.mem_map.2 ⟨id, hid, rfl⟩)
      simp only at this
      rw [this]

theorem callLend_sound (hE : EnvOK C.P E) (hm : MemR C m) (hg : ViewOK g m.h) {f : FuncId} {fs : FSpec} (hf : E f = some fs) {us : List Value} (hvs : VRs C m vs us) (h : callLend E fs vs g c = some out) (hp : ∀ p ∈ out.ps, p)
    (hn : ∀ p ∈ out.news, m.h p.1 = none) (hd : ((out.sets ++ out.news).map (·.1)).Nodup) :
    CallOK C.P f us.toArray m.w fun v w' => After C m out.av (out.sets ++ out.news) v w' := by
  unfold callLend at h
  split at h
  · exact callSpec_sound hE hm hg hf hvs h hp hn hd
  · rename_i ids hids
    split at h
    · rename_i hc
      simp only [Bool.and_eq_true] at hc
      obtain ⟨hfp, hfr, hall⟩ := hc
      have hgh : ∀ id ∈ lentIds g vs, g id = m.h id := fun id hid => by
        obtain ⟨e, n, xs, hx⟩ := isArr_iff ((List.all_eq_true.1 hall) id hid)
        rw [hx, hg _ _ hx]
      generalize lentIds g vs = ids at *
      have harr : ∀ id ∈ ids, isArr m.h id = true := fun id hid => by
        have := (List.all_eq_true.1 hall) id hid
        unfold isArr at this ⊢
        rw [← hgh id hid]; exact this
      have hvs' : VRs C (lentMem ids m) (vs.map (fzAV ids g)) us := by
        have := fzVRs_sound hm harr hvs
        have e : vs.map (fzAV ids m.h) = vs.map (fzAV ids g) := List.map_congr_left fun a _ => by
          cases a with
          | one x => exact congrArg AV.one (fz1_view hgh x).symm
          | agg l => exact congrArg AV.agg (List.map_congr_left fun x _ => (fz1_view hgh x).symm)
          | tup l => rfl
        rw [e] at this
        exact this
      have hg' : ViewOK (fzView ids g) (lentMem ids m).h := fun id e he => by
        obtain ⟨hni, e0, h0, rfl⟩ := fzView_some he
        show fzView ids m.h id = _
        rw [fzView_in hni (hg _ _ h0)]
        congr 1
        cases e0 with
        | box l => exact congrArg Ent.box (List.map_congr_left fun x _ => (fz1_view hgh x).symm)
        | _ => rfl
      have hml := lent_mem hm harr
      unfold callSpec at h
      split at h
      · rename_i qs args hargs
        simp only at h
        split at h
        · rename_i s n c' hpo
          split at h
          · rename_i hro
            obtain rfl := Option.some.inj h
            simp only at hp hn hd ⊢
            have hs1 : s.map (·.1) = argsIds fs.ps (vs.map (fzAV ids g)) (fzView ids g) := putOuts_ids hargs hpo
            have hio : ∀ b ∈ (argsIds fs.ps (vs.map (fzAV ids g)) (fzView ids g)).flatMap (blkL (lentMem ids m)), C.w0.heap.size ≤ b ∨ b ∈ C.io := fun b hb => by
              obtain ⟨id, _, hbi⟩ := List.mem_flatMap.1 hb
              obtain ⟨e, he, hbe⟩ := mem_blkL hbi
              exact hml.where_ id e b he hbe
            have hA := getArgs_sound hE hml hg' hio hargs (fun q hq => hp q (by simp [hq])) hvs' (fun id hid b hb hbi => by
              obtain ⟨j, hj, hbj⟩ := List.mem_flatMap.1 hbi
              have := blkL_apart hml hb hbj
              subst this
              rw [← hs1] at hj
              exact disj_out hro hid hj)
            have hsn : (argsIds fs.ps (vs.map (fzAV ids g)) (fzView ids g)).Nodup := by
              rw [← hs1]
              rw [List.map_append] at hd
              exact (List.nodup_append.1 hd).1
            have hcall := sound_flat (hE f fs hf) hfp hfr (U := m.U) (Ul := (lentMem ids m).U) (w := m.w) (vs := us) (fun a ha => .inl ha) hml.post.bound hA (io_nodup hml hsn) (fun p hpp => hp p (by simp [hpp]))
            refine CallOK.mono hcall ?_
            rintro v w' ⟨U', rvs, b1, b2, hP, rfl, hres, houts, hnd, hnew⟩
            obtain ⟨⟨p1, f1⟩, _⟩ := putOuts_fits hml hg' hargs hpo hvs' houts
            have hblk : ∀ b ∈ (argsIds fs.ps (vs.map (fzAV ids g)) (fzView ids g)).flatMap (blkL (lentMem ids m)), b ∈ (argsIds fs.ps (vs.map (fzAV ids g)) (fzView ids g)).flatMap (blkL m) := fun b hb => by
              obtain ⟨id, hin, hbi⟩ := List.mem_flatMap.1 hb
              obtain ⟨e, he, hbe⟩ := mem_blkL hbi
              obtain ⟨_, e0, h0, rfl⟩ := fzView_some he
              refine List.mem_flatMap.2 ⟨id, hin, ?_⟩
              rw [blkOf_fz] at hbe
              have hbe' : blkOf (m.pl id) e0 = some b := hbe
              simp [blkL, h0, hbe']
            refine call_after hm (sids := argsIds fs.ps (vs.map (fzAV ids g)) (fzView ids g)) (hP.grow hblk) hres (f1.perm (.refl _) fun m' hx => ?_) hnd (fun b hb => (hnew b hb).imp_right (hblk b)) (fun id hid => by rw [hs1]; exact hid) hn hd
            intro p hps
            obtain ⟨e0, he0, hx0⟩ := hx p hps
            obtain ⟨_, e1, h1, rfl⟩ := fzView_some he0
            refine ⟨e1, h1, ?_⟩
            obtain ⟨i, e2⟩ := p
            cases e1 <;> cases e2 <;> exact hx0
          · cases h
        · cases h
      · cases h
    · split at h
      · rename_i hall
        have hgh : ∀ id ∈ lentIds g vs, g id = m.h id := fun id hid => by
          obtain ⟨e, n, xs, hx⟩ := isArr_iff ((List.all_eq_true.1 hall) id hid)
          rw [hx, hg _ _ hx]
        generalize lentIds g vs = ids at *
        have harr : ∀ id ∈ ids, isArr m.h id = true := fun id hid => by
          have := (List.all_eq_true.1 hall) id hid
          unfold isArr at this ⊢
          rw [← hgh id hid]; exact this
        have hvs' : VRs C (lentMem ids m) (vs.map (fzAV ids g)) us := by
          have := fzVRs_sound hm harr hvs
          have e : vs.map (fzAV ids m.h) = vs.map (fzAV ids g) := List.map_congr_left fun a _ => by
            cases a with
            | one x => exact congrArg AV.one (fz1_view hgh x).symm
            | agg l => exact congrArg AV.agg (List.map_congr_left fun x _ => (fz1_view hgh x).symm)
            | tup l => rfl
          rw [e] at this
          exact this
        have hg' : ViewOK (fzView ids g) (lentMem ids m).h := fun id e he => by
          obtain ⟨hni, e0, h0, rfl⟩ := fzView_some he
          show fzView ids m.h id = _
          rw [fzView_in hni (hg _ _ h0)]
          congr 1
          cases e0 with
          | box l => exact congrArg Ent.box (List.map_congr_left fun x _ => (fz1_view hgh x).symm)
          | _ => rfl
        have hml := lent_mem hm harr
        obtain ⟨out0, h0, hout⟩ := Option.map_eq_some_iff.1 h
        clear h
        subst hout
        unfold callSpec at h0
        split at h0
        · rename_i qs args hargs
          simp only at h0
          split at h0
          · rename_i s n c' hpo
            split at h0
            · rename_i hro
              obtain rfl := Option.some.inj h0
              unfold giveOut at hp hn hd ⊢; simp only at hp hn hd ⊢
              have hs1 : s.map (·.1) = argsIds fs.ps (vs.map (fzAV ids g)) (fzView ids g) := putOuts_ids hargs hpo
              have hio : ∀ b ∈ (argsIds fs.ps (vs.map (fzAV ids g)) (fzView ids g)).flatMap (blkL (lentMem ids m)), C.w0.heap.size ≤ b ∨ b ∈ C.io := fun b hb => by
                obtain ⟨id, _, hbi⟩ := List.mem_flatMap.1 hb
                obtain ⟨e, he, hbe⟩ := mem_blkL hbi
                exact hml.where_ id e b he hbe
              have hA := getArgs_sound hE hml hg' hio hargs (fun q hq => hp q (by simp [giveOut, hq])) hvs' (fun id hid b hb hbi => by
                obtain ⟨j, hj, hbj⟩ := List.mem_flatMap.1 hbi
                have := blkL_apart hml hb hbj
                subst this
                rw [← hs1] at hj
                exact disj_out hro hid hj)
              have hsn : (argsIds fs.ps (vs.map (fzAV ids g)) (fzView ids g)).Nodup := by
                rw [← hs1]
                have hd := hd
                simp only [List.map_append, List.append_assoc] at hd
                exact (List.nodup_append.1 hd).1
              have hcall := hE f fs hf (lentMem ids m).U m.w us args _ hml.post.bound hA (io_nodup hml hsn) (fun p hpp => hp p (by simp [giveOut, hpp]))
              refine CallOK.mono hcall ?_
              rintro v w' ⟨U', rvs, b1, b2, hP, rfl, hres, houts, hnd, hnew⟩
              obtain ⟨⟨p1, f1⟩, _⟩ := putOuts_fits hml hg' hargs hpo hvs' houts
              have hblk : ∀ b ∈ (argsIds fs.ps (vs.map (fzAV ids g)) (fzView ids g)).flatMap (blkL (lentMem ids m)), b ∈ (argsIds fs.ps (vs.map (fzAV ids g)) (fzView ids g)).flatMap (blkL m) := fun b hb => by
                obtain ⟨id, hin, hbi⟩ := List.mem_flatMap.1 hb
                obtain ⟨e, he, hbe⟩ := mem_blkL hbi
                obtain ⟨_, e0, h0, rfl⟩ := fzView_some he
                refine List.mem_flatMap.2 ⟨id, hin, ?_⟩
                rw [blkOf_fz] at hbe
                have hbe' : blkOf (m.pl id) e0 = some b := hbe
                simp [blkL, h0, hbe']
              have hgb : ∀ id ∈ dedupN ids, (m.pl id).g ∈ blkL m id := fun id hid => by
                obtain ⟨e, k, xs, q⟩ := isArr_iff (harr id (dedupN_sub hid))
                simp [blkL, q, blkOf]
              have hP' : Post ((argsIds fs.ps (vs.map (fzAV ids g)) (fzView ids g) ++ dedupN ids).flatMap (blkL m)) m.U m.w U' w' := by
                refine hP.give (fun a ha => .inl ha) (fun b hb => ?_) (fun a ha => ?_)
                · rw [List.flatMap_append]
                  exact List.mem_append.2 (.inl (hblk b hb))
                · rcases ha with ha | ⟨id, hid, e, k, xs, _, h2, _, _⟩
                  · exact .inl ha
                  · refine .inr ?_
                    rw [List.flatMap_append, h2]
                    exact List.mem_append.2 (.inr (List.mem_flatMap.2 ⟨id, dedupN_sup hid, hgb id (dedupN_sup hid)⟩))
              have hG : Fits C U' w' ((dedupN ids).map fun id => ((id, .frz .unit 1 []) : Nat × Ent)) ((dedupN ids).map fun id => (id, m.pl id)) [] (fun m' => ExtOf m m' ((dedupN ids).map fun id => (id, .frz .unit 1 []))) := give_fits (fun id hid => harr id (dedupN_sub hid))
              have f2 : Fits C U' w' ((s ++ (dedupN ids).map fun id => ((id, .frz .unit 1 []) : Nat × Ent)) ++ n) (p1 ++ (dedupN ids).map fun id => (id, m.pl id)) b2 (fun m' => ExtOf m m' (s ++ (dedupN ids).map fun id => (id, .frz .unit 1 []))) := by
                have f3 := f1.app hG (Q := fun m' => ExtOf m m' (s ++ (dedupN ids).map fun id => (id, .frz .unit 1 []))) fun m' _ _ q1 q2 p hps => by
                  rcases List.mem_append.1 hps with hps | hps
                  · obtain ⟨e0, he0, hx0⟩ := q1 p hps
                    obtain ⟨_, e1, h1, rfl⟩ := fzView_some he0
                    refine ⟨e1, h1, ?_⟩
                    obtain ⟨i, e2⟩ := p
                    cases e1 <;> cases e2 <;> exact hx0
                  · exact q2 p hps
                rw [List.append_nil] at f3
                refine f3.perm ?_ fun _ h => h
                rw [List.append_assoc, List.append_assoc]
                exact .append_left _ List.perm_append_comm
              refine call_after hm (sids := argsIds fs.ps (vs.map (fzAV ids g)) (fzView ids g) ++ dedupN ids) hP' hres f2 hnd (fun b hb => (hnew b hb).imp_right fun h => ?_) (fun id hid => ?_) hn hd
              · rw [List.flatMap_append]
                exact List.mem_append.2 (.inl (hblk b h))
              · rw [List.map_append, hs1, List.map_map]
                rcases List.mem_append.1 hid with h | h
                · exact List.mem_append.2 (.inl h)
                · exact List.mem_append.2 (.inr (by simpa using h))
            · cases h0
          · cases h0
        · cases h0
      · cases h

theorem vrs_app : ∀ {l l' : List AV} {us us' : List Value}, VRs C m l us → VRs C m l' us' → VRs C m (l ++ l') (us ++ us')
  | [], _, [], _, _, h' => h'
  | _ :: _, _, _ :: _, _, h, h' => ⟨h.1, vrs_app h.2 h'⟩
  | [], _, _ :: _, _, h, _ => h.elim
  | _ :: _, _, [], _, h, _ => h.elim

theorem vrs_caps : ∀ {caps : List Nat}, (∀ id ∈ caps, (∃ cells, m.h id = some (.box cells)) ∨ (∃ e n xs, m.h id = some (.arr e n xs)) ∨ Gone m id) →
    VRs C m (capAVs caps) (caps.map fun id => Value.pointer (some ⟨(m.pl id).g, 0, none⟩))
  | [], _ => trivial
  | id :: caps, h => ⟨⟨rfl, rfl, h id (by simp)⟩, vrs_caps fun i hi => h i (by simp [hi])⟩

theorem execOK_call {P : Program} {w : World} {R : Value → World → Prop} {f : Operand} {args : Array Operand} {ts : Array TypeId} {fn : FuncId} {cap : Array Value} (hf : ρ f = .func (.func fn) #[] cap)
    (h : CallOK P fn (args.map ρ ++ cap) w R) : ExecOK P ρ ⟨dst, .call ⟨.value f, args, ts⟩, type, pos, after, guard⟩ w R := by
  have e : (execOp ρ ⟨dst, .call ⟨.value f, args, ts⟩, type, pos, after, guard⟩).run P w = (callFunc fn (args.map ρ ++ cap)).run P w := by
    simp only [execOp, resolve, hf, Deferred.ofValue, Sem.run_bind, Sem.run_pure, Result.andThen_ok, invoke, Array.empty_append]
  unfold ExecOK
  rw [e]
  unfold CallOK at h
  split at h
  · rename_i h'; rw [h']; exact h
  · rename_i h'; rw [h']; exact h
  · exact h.elim

theorem core_call (hE : EnvOK C.P E) {f : Operand} {args : Array Operand} {ts : Array TypeId} (hm : MemR C m) (hg : ViewOK g m.h) (hvs : VRs C m vs ((f :: args.toList).map ρ)) (h : coreCall E g c vs = some out) (hp : ∀ p ∈ out.ps, p)
    (hn : ∀ p ∈ out.news, m.h p.1 = none) (hd : ((out.sets ++ out.news).map (·.1)).Nodup) :
    ExecOK C.P ρ ⟨dst, .call ⟨.value f, args, ts⟩, type, pos, after, guard⟩ m.w (After C m out.av (out.sets ++ out.news)) := by
  unfold coreCall at h
  split at h
  · rename_i f1 as
    obtain ⟨hf, has⟩ := hvs
    unfold callAV at h
    split at h
    · rename_i fn caps
      split at h
      · rename_i fs hfs
        obtain ⟨_, hv, hcaps⟩ := hf
        refine execOK_call hv ?_
        have := callLend_sound hE hm hg hfs (vrs_app has (vrs_caps hcaps)) h hp hn hd
        have e : (args.toList.map ρ ++ caps.map fun id => Value.pointer (some ⟨(m.pl id).g, 0, none⟩)).toArray = args.map ρ ++ (caps.map fun id => Value.pointer (some ⟨(m.pl id).g, 0, none⟩)).toArray := by
          apply Array.ext'
          simp
        rw [e] at this
        exact this
      · cases h
    · rename_i a r p
      split at h
      · rename_i x
        split at h
        · rename_i ps y hy
          split at h
          · rename_i hc
            obtain rfl := okp_eq h
            rw [Bool.and_eq_true] at hc
            obtain ⟨_, fn, cap, hv, hr⟩ := hf
            have hargs : ∃ z, args = #[z] := by
              have := has.length
              simp at this
              match args, this with
              | ⟨[x]⟩, _ => exact ⟨x, rfl⟩
            obtain ⟨z, rfl⟩ := hargs
            have hne : x ≠ .any := fun e => by subst e; simp [AV1.told] at hc
            obtain ⟨h1, h2⟩ := avr_one has.1 hne
            have hcr := ofCellsAll_sound hm hg hy hp (vs := [ρ z]) ⟨⟨h1, h2⟩, trivial⟩
            refine execOK_call hv ?_
            have e : (#[z].map ρ) ++ cap = #[ρ z] ++ cap := by simp
            rw [e]
            refine (hr m.U m.w hm.post y (ρ z) hcr).mono ?_
            rintro v w' ⟨U', hP, hcv⟩
            obtain ⟨k1, k2⟩ := memR_post hm hP
            refine ⟨U', m.pl, k1, k2, ?_⟩
            exact ⟨CR.oneC' hcv v (by simp), hcv⟩
          · cases h
        · cases h
      · cases h
    · cases h
  · cases h
end
end Go.Proofs.Ytmlolnaannoifaa

/- Every operation: the model's run is as told. -/
namespace Go.Proofs.Ytmlolnaannoifaa

section
variable {C : Ctx} {m : Mem} {g : View} {E : Env} {T : Types} {c : Nat} {out : Out} {ρ : Operand → Value} {vs : List AV}

theorem elems_none {α : Type} {U : Addr → Prop} {w : World} {k : Nat} {R : α → List Value → Prop} {xs : List α} (h : Elems U w k none R xs) : xs = [] := by
  match xs, h with
  | [], _ => rfl
  | x :: r, h =>
    obtain ⟨ad, _, hn, _⟩ := h 0 (by simp)
    cases hn

theorem nilQ_sl {a : AV1} {v : Value} {out : Out} (h : coreNilQ [.one a, .one .nilsl] = some out ∨ ∃ b, coreNilQ [.one a, b] = some out) (ha : AVR C m (.one a) v) :
    ∃ A n c p, v = .slice A n c ∧ out = ⟨[], .one (.pb p), [], []⟩ ∧ (A = none → p) := by
  have h' : ∃ b, coreNilQ [.one a, b] = some out := h.elim (fun h => ⟨_, h⟩) id
  obtain ⟨b, h'⟩ := h'
  cases a with
  | d k x =>
    cases k with
    | sl e =>
      obtain rfl := ok_eq h'
      obtain ⟨_, A, c, hv, _, hE⟩ := ha
      simp only [List.cons.injEq, and_true] at hv
      exact ⟨A, _, c, _, hv, rfl, fun hA => by subst hA; exact elems_none hE⟩
    | _ => simp [coreNilQ] at h'
  | nilsl =>
    obtain rfl := ok_eq h'
    obtain ⟨_, A, hv⟩ := ha
    exact ⟨A, 0, 0, _, hv, rfl, fun _ => trivial⟩
  | _ => simp [coreNilQ] at h'

theorem core_binN (hT : TyOK C.P T) {t u : TypeId} {op : BinOp} {x y : Operand} {dst : Option Tmp} {type : TypeId} {pos : String} {after : Array Edge} {guard : Option (Nat × Bool)} (hρ : ∀ v, ρ (.const v) = v) (hm : MemR C m) (hvs : VRs C m vs [ρ x, ρ y]) (h : coreBinN T t op (isNilC y) vs = some out) (hp : ∀ p ∈ out.ps, p) :
    ExecOK C.P ρ ⟨dst, .binOp op t x y u, type, pos, after, guard⟩ m.w (After C m out.av (out.sets ++ out.news)) := by
  unfold coreBinN at h
  split at h
  · rename_i hy
    split at h
    · rename_i te hte
      have hy' : y = .const (.slice none 0 0) := by
        unfold isNilC at hy
        split at hy
        · rfl
        · cases hy
      subst hy'
      obtain ⟨et, hd, hdu, _⟩ := elemTy_sound (m := m) hT hte
      obtain ⟨a, b, rfl, ha, hb⟩ := vrs2 hvs
      have ha' : ∃ a', a = .one a' := by
        cases a with
        | one a' => exact ⟨a', rfl⟩
        | _ => simp [coreNilQ] at h
      obtain ⟨a', rfl⟩ := ha'
      obtain ⟨A, n, c', p, hv, rfl, hAp⟩ := nilQ_sl (.inr ⟨b, h⟩) ha
      have hy0 := hρ (.slice none 0 0)
      refine exec_q hm rfl ⟨.bool A.isNone, m.w, ?_, Quiet.refl _, ?_⟩
      · rw [hv, hy0]
        have he : (Op.equal t (.slice A n c') (.slice none 0 0)).run C.P m.w = .ok A.isNone m.w := by
          unfold Op.equal
          show (Op.equalIn (9999 + 1) t _ _).run C.P m.w = _
          unfold Op.equalIn
          rw [Sem.run_bind, hd]
          cases A <;> simp
        have hg0 : (eqGuard .eql t x (.const (.slice none 0 0)) (.slice A n c') (.slice none 0 0)).run C.P m.w = .ok () m.w := by
          simp [eqGuard]
        rw [Sem.run_bind, hg0, Result.andThen_ok]
        show (do pure (Value.bool (← Op.equal t (.slice A n c') (.slice none 0 0))) : Sem Value).run C.P m.w = _
        rw [Sem.run_bind, he]
        rfl
      · exact ⟨rfl, A.isNone, rfl, fun hA => hAp (by cases A <;> simp_all)⟩
    · exact core_bin hT hm hvs h hp
  · exact core_bin hT hm hvs h hp

theorem core_sound (hρ : ∀ v, ρ (.const v) = v) (hT : TyOK C.P T) (hE : EnvOK C.P E) (o : Oper) (hm : MemR C m) (hg : ViewOK g m.h) (hvs : VRs C m vs ((opers o.op).map ρ)) (h : core T E o.op vs g c = some out) (hp : ∀ p ∈ out.ps, p)
    (hn : ∀ p ∈ out.news, m.h p.1 = none) (hd : ((out.sets ++ out.news).map (·.1)).Nodup) :
    ExecOK C.P ρ o m.w (After C m out.av (out.sets ++ out.news)) := by
  obtain ⟨dst, op, type, pos, after, guard⟩ := o
  cases op with
  | move x => exact core_move hm hvs h
  | assign x => exact core_assign hm hvs h
  | pick x y z => exact core_pick hm hvs h
  | alloc t => exact core_alloc hT hm h hp hn
  | box t x => exact core_box hm hvs h hp hn
  | build t parts => exact core_build hT hm hvs h
  | buildSlice t len parts => exact core_buildSlice hT hm hg hvs h hp
  | load t x => exact core_load hT hm hg hvs h hp
  | store t x y => exact core_store hT hm hg hvs h hp
  | nilCheck x => exact core_nil hm hvs h
  | binOp op t x y u => exact core_binN hT hρ hm hvs h hp
  | unOp op t x => exact core_un hm hvs h
  | convert s d x => exact core_conv hT hm hg hvs h hp
  | fieldAddr s x f => exact core_fieldAddr hT hm hvs h
  | field s x f => exact core_field hT hm hvs h
  | indexAddr t x y => exact core_indexAddr hT hm hg hvs h hp
  | index t x y => exact core_index hT hm hvs h hp
  | slice t x lo hi mx => exact core_slice hT hm hg hvs h hp
  | makeSlice t x y => exact core_makeSlice hT hm hvs h hp hn
  | makeFunc fn first captured => exact core_makeFunc hm hvs h
  | extract x i => exact core_extract hm hvs h
  | call cl =>
    obtain ⟨callee, args, ts⟩ := cl
    cases callee with
    | value f => exact core_call hE hm hg hvs h hp hn hd
    | builtin b =>
      cases b with
      | len => exact core_len hT hm hg hvs h
      | append => exact core_append hT hm hg hvs h hp hn
      | min => exact core_min hm hvs h
      | max => exact core_max hm hvs h
      | _ => simp [core] at h
    | invoke r n => simp [core] at h
  | _ => simp [core] at h
end
end Go.Proofs.Ytmlolnaannoifaa

/- The steps of a region, one behind the other; two that do not meet may change places. -/
namespace Go.Proofs.Ytmlolnaannoifaa

structure VS where
  t : Nat → Option AV
  h : View

def St.vs (s : St) : VS := ⟨get1 s.t, get1 s.h⟩

def putF (t : Nat → Option AV) (d : Option Nat) (v : AV) : Nat → Option AV := fun i => if d = some i then some v else t i

def Stp (T : Types) (E : Env) (n : Nat) (ops : List Oper) (s : VS) (o : Oper) (inf : Info) (s' : VS) : Prop :=
  (∀ d, o.dst = some d → d < n) ∧
  ((wantedAV ops s.t o = some false ∧ inf = ⟨inf.i, guardSlot ops o, o.dst, [], [], []⟩ ∧ s' = ⟨putF s.t o.dst (.tup []), s.h⟩) ∨
   (wantedAV ops s.t o = some true ∧ ∃ out, evOp T E s.t s.h o = some out ∧ (∀ p ∈ out.ps, p) ∧ (∀ p ∈ out.news, s.h p.1 = none) ∧ ((out.sets ++ out.news).map (·.1)).Nodup ∧ ((∀ p ∈ out.news, 65536 ≤ p.1) ∧ ∀ p ∈ out.sets, (s.h p.1).isSome) ∧
     inf = infoOf ops s.t s.h inf.i o out ∧ s' = ⟨putF s.t o.dst out.av, updE s.h (out.sets ++ out.news)⟩))

def Chain (T : Types) (E : Env) (n : Nat) (ops : List Oper) (s : VS) : List (Oper × Info) → VS → Prop
  | [], s' => s' = s
  | x :: r, s' => ∃ s1, Stp T E n ops s x.1 x.2 s1 ∧ Chain T E n ops s1 r s'

/- lists of pairs -/
theorem get1_cons {α : Type} (j : Nat) (v : α) (r : List (Nat × α)) (i : Nat) : get1 ((j, v) :: r) i = if i = j then some v else get1 r i := by
  by_cases h : i = j
  · subst h; simp [get1]
  · rw [if_neg h]; simp [get1, nbeq_ne h]

theorem set1_cons {α : Type} (j : Nat) (u : α) (r : List (Nat × α)) (i : Nat) (v : α) : set1 ((j, u) :: r) i v = if i = j then (i, v) :: r else (j, u) :: set1 r i v := by
  by_cases h : i = j
  · subst h; simp [set1]
  · rw [if_neg h]; simp [set1, nbeq_ne h]

theorem get1_set1 {α : Type} : ∀ (l : List (Nat × α)) (i : Nat) (v : α) (j : Nat), get1 (set1 l i v) j = if j = i then some v else get1 l j
  | [], i, v, j => by
    simp only [set1, get1_cons]
  | (k, u) :: l, i, v, j => by
    rw [set1_cons, get1_cons]
    by_cases hik : i = k
    · rw [if_pos hik, get1_cons]
      by_cases h : j = i
      · rw [if_pos h, if_pos h]
      · rw [if_neg h, if_neg h, if_neg (by omega)]
    · rw [if_neg hik, get1_cons, get1_set1 l i v j]
      by_cases hjk : j = k
      · rw [if_pos hjk, if_pos hjk, if_neg (by omega)]
      · rw [if_neg hjk, if_neg hjk]

theorem get1_setAll {α : Type} : ∀ (r l : List (Nat × α)) (j : Nat), (r.map (·.1)).Nodup → get1 (setAll l r) j = (match get1 r j with | some v => some v | none => get1 l j)
  | [], l, j, _ => by simp [setAll, get1]
  | (i, v) :: r, l, j, h => by
    simp only [List.map_cons, List.nodup_cons] at h
    simp only [setAll]
    rw [get1_setAll r _ j h.2, get1_set1, get1_cons]
    by_cases hij : j = i
    · subst hij
      rw [get1_none h.1, if_pos rfl, if_pos rfl]
    · rw [if_neg hij, if_neg hij]

theorem setAll_updE (l r : Ents) (h : (r.map (·.1)).Nodup) : get1 (setAll l r) = updE (get1 l) r := by
  funext j
  rw [get1_setAll r l j h]
  unfold updE
  cases get1 r j <;> rfl

theorem putT_putF (t : List (Nat × AV)) (d : Option Nat) (v : AV) : get1 (putT t d v) = putF (get1 t) d v := by
  funext j
  cases d with
  | none => simp [putT, putF]
  | some i => simp only [putT, putF, get1_set1, Option.some.injEq, eq_comm]

theorem memN_mem {i : Nat} : ∀ {l : List Nat}, memN i l = true ↔ i ∈ l
  | [] => by simp [memN]
  | j :: l => by
    simp only [memN, Bool.or_eq_true, List.mem_cons, memN_mem (l := l)]
    constructor
    · rintro (h | h)
      · exact .inl (Nat.eq_of_beq_eq_true h)
      · exact .inr h
    · rintro (h | h)
      · subst h; simp
      · exact .inr h

theorem nodupN_nodup : ∀ {l : List Nat}, nodupN l = true → l.Nodup
  | [], _ => List.nodup_nil
  | i :: l, h => by
    simp only [nodupN, Bool.and_eq_true, Bool.not_eq_true'] at h
    rw [List.nodup_cons]
    refine ⟨fun hin => ?_, nodupN_nodup h.2⟩
    rw [memN_mem.2 hin] at h
    exact absurd h.1 (by simp)

theorem conj_out : ∀ {ps : List Prop} {q : Prop}, conj ps q → (∀ p ∈ ps, p) ∧ q
  | [], q, h => ⟨fun p hp => by simp at hp, h⟩
  | p :: ps, q, h => by
    obtain ⟨h1, h2⟩ := h
    obtain ⟨h3, h4⟩ := conj_out h2
    exact ⟨fun r hr => (List.mem_cons.1 hr).elim (fun e => e ▸ h1) (h3 r), h4⟩

theorem freshAll_out {h sets news : Ents} (hf : freshAll h sets news = true) : (∀ p ∈ news, get1 h p.1 = none) ∧ (∀ p ∈ news, 65536 ≤ p.1) ∧ ∀ p ∈ sets, (get1 h p.1).isSome := by
  unfold freshAll at hf
  simp only [Bool.and_eq_true, List.all_eq_true, Nat.ble_eq, Option.isNone_iff_eq_none] at hf
  exact ⟨fun p hp => (hf.1 p hp).1, fun p hp => (hf.1 p hp).2, hf.2⟩

theorem split2_out {v : AV} {K : AV → Prop} (h : split2 v K) : K v := by
  unfold split2 at h
  split at h
  · rename_i b
    cases b with
    | true => simpa using h
    | false => simpa using h
  · exact h.elim

theorem evRun_chain {T : Types} {E : Env} {n : Nat} {ops : List Oper} {G : List Nat} : ∀ (l : List Oper) (i : Nat) (inf : List Info) (s : St) {K : List Info → St → Prop}, evRun T E n ops G l i inf s K →
    ∃ infs s', infs.map (·.i) = List.range' i l.length ∧ Chain T E n ops s.vs (l.zip infs) s'.vs ∧ K (inf ++ infs) s'
  | [], i, inf, s, K, h => by
    rw [evRun] at h
    exact ⟨[], s, rfl, rfl, by rw [List.append_nil]; exact h⟩
  | o :: r, i, inf, s, K, h => by
    unfold evRun at h
    simp only at h
    split at h
    · rename_i hd
      have hdst : ∀ d, o.dst = some d → d < n := fun d he => by
        rw [he] at hd
        simpa [Nat.blt_eq] using hd
      split at h
      · exact h.elim
      · rename_i wt hwt
        split at h
        · obtain ⟨infs, s', h1, h2, h3⟩ := evRun_chain r (i + 1) _ _ h
          refine ⟨⟨i, guardSlot ops o, o.dst, [], [], []⟩ :: infs, s', by simp [h1, List.range'_succ], ⟨_, ⟨hdst, .inl ⟨hwt, rfl, rfl⟩⟩, ?_⟩, by simpa using h3⟩
          have : (⟨putT s.t o.dst (.tup []), s.h⟩ : St).vs = ⟨putF s.vs.t o.dst (.tup []), s.vs.h⟩ := by simp only [St.vs, putT_putF]
          rw [← this]; exact h2
        · split at h
          · exact h.elim
          · rename_i out hout
            split at h
            · rename_i hc
              rw [Bool.and_eq_true] at hc
              have hnd : ((out.sets ++ out.news).map (·.1)).Nodup := by rw [List.map_append]; exact nodupN_nodup hc.2
              obtain ⟨hps, hk⟩ := conj_out h
              have hk' : evRun T E n ops G r (i + 1) (inf ++ [infoOf ops (get1 s.t) (get1 s.h) i o out]) ⟨putT s.t o.dst out.av, setAll s.h (out.sets ++ out.news)⟩ K := by
                split at hk
                · exact split2_out hk
                · exact hk
              obtain ⟨infs, s', h1, h2, h3⟩ := evRun_chain r (i + 1) _ _ hk'
              refine ⟨infoOf ops (get1 s.t) (get1 s.h) i o out :: infs, s', by simp [h1, List.range'_succ, infoOf], ⟨_, ⟨hdst, .inr ⟨hwt, out, hout, hps, (freshAll_out hc.1).1, hnd, (freshAll_out hc.1).2, rfl, rfl⟩⟩, ?_⟩, by simpa using h3⟩
              have : (⟨putT s.t o.dst out.av, setAll s.h (out.sets ++ out.news)⟩ : St).vs = ⟨putF s.vs.t o.dst out.av, updE s.vs.h (out.sets ++ out.news)⟩ := by simp only [St.vs, putT_putF, setAll_updE _ _ hnd]
              rw [← this]; exact h2
            · exact h.elim
    · exact h.elim

/- what an operation reads -/
theorem opAV_congr {t t' : Nat → Option AV} {x : Operand} (h : ∀ d ∈ tmpsOf [x], t' d = t d) : opAV t' x = opAV t x := by
  cases x with
  | tmp d => simp only [opAV]; rw [h d (by simp [tmpsOf])]
  | _ => rfl

theorem opers_congr {t t' : Nat → Option AV} : ∀ {l : List Operand}, (∀ d ∈ tmpsOf l, t' d = t d) → l.map (opAV t') = l.map (opAV t)
  | [], _ => rfl
  | x :: l, h => by
    have e : tmpsOf (x :: l) = tmpsOf [x] ++ tmpsOf l := by
      cases x <;> simp [tmpsOf]
    rw [List.map_cons, List.map_cons, opAV_congr (fun d hd => h d (by rw [e]; simp [hd])), opers_congr (fun d hd => h d (by rw [e]; simp [hd]))]

theorem fpOf_congr {vs : List AV} {h h' : View} (hh : ∀ i ∈ fpOf vs h, h' i = h i) : fpOf vs h' = fpOf vs h := by
  unfold fpOf
  simp only
  congr 1
  have : ∀ l : List Nat, (∀ i ∈ l, h' i = h i) → (l.flatMap fun id => match h' id with | some e => idsEnt e | none => []) = l.flatMap fun id => match h id with | some e => idsEnt e | none => [] := by
    intro l
    induction l with
    | nil => intro _; rfl
    | cons i l ih =>
      intro hl
      rw [List.flatMap_cons, List.flatMap_cons, ih (fun j hj => hl j (by simp [hj])), hl i (by simp)]
  exact this _ (fun i hi => hh i (by unfold fpOf; simp only [List.mem_append]; exact .inl hi))

theorem viewOf_congr {vs : List AV} {h h' : View} (hh : ∀ i ∈ fpOf vs h, h' i = h i) : viewOf (fpOf vs h') h' = viewOf (fpOf vs h) h := by
  rw [fpOf_congr hh]
  funext i
  unfold viewOf
  split
  · rename_i hm
    exact hh i (memN_mem.1 hm)
  · rfl

theorem evOp_congr {T : Types} {E : Env} {t t' : Nat → Option AV} {h h' : View} {o : Oper} (ht : ∀ d ∈ tmpsOf (opers o.op), t' d = t d) (hh : ∀ i ∈ fpOf ((opers o.op).map (opAV t)) h, h' i = h i) :
    evOp T E t' h' o = evOp T E t h o ∧ fpOf ((opers o.op).map (opAV t')) h' = fpOf ((opers o.op).map (opAV t)) h := by
  unfold evOp
  simp only
  rw [opers_congr ht]
  exact ⟨by rw [viewOf_congr hh], fpOf_congr hh⟩

theorem wantedAV_congr {ops : List Oper} {t t' : Nat → Option AV} {o : Oper} (h : ∀ d ∈ guardSlot ops o, t' d = t d) : wantedAV ops t' o = wantedAV ops t o := by
  unfold wantedAV guardSlot at *
  split
  · rfl
  · rename_i j want hg
    rw [hg] at h
    simp only at h
    split
    · rename_i d hd
      rw [hd] at h
      rw [h d (by simp)]
    · rfl

theorem updE_out {h : View} {l : Ents} {i : Nat} (hi : i ∉ l.map (·.1)) : updE h l i = h i := by
  unfold updE
  rw [get1_none hi]

theorem putF_out {t : Nat → Option AV} {d : Option Nat} {v : AV} {i : Nat} (hi : d ≠ some i) : putF t d v i = t i := if_neg hi

theorem updE_comm {h : View} {l r : Ents} (hd : ∀ i ∈ l.map (·.1), i ∉ r.map (·.1)) : updE (updE h l) r = updE (updE h r) l := by
  funext i
  by_cases hl : i ∈ l.map (·.1)
  · rw [updE_out (hd i hl)]
    unfold updE
    cases hg : get1 l i with
    | some e => rfl
    | none => simp only; rw [get1_none (hd i hl)]
  · rw [updE_out hl]
    unfold updE
    cases hg : get1 r i with
    | some e => rfl
    | none => simp only; rw [get1_none hl]

theorem putF_comm {t : Nat → Option AV} {d e : Option Nat} {u v : AV} (hd : ∀ i, d = some i → e ≠ some i) : putF (putF t d u) e v = putF (putF t e v) d u := by
  funext i
  unfold putF
  by_cases h1 : d = some i
  · simp [h1, hd i h1]
  · simp [h1]

/-- What a step changes and reads, by its note; it may be taken where what it reads is the same. -/
theorem Stp.eff {T : Types} {E : Env} {n : Nat} {ops : List Oper} {s s' : VS} {o : Oper} {inf : Info} (h : Stp T E n ops s o inf s') :
    ∃ v l, s' = ⟨putF s.t inf.dst v, updE s.h l⟩ ∧ l.map (·.1) = inf.sets ++ inf.news ∧ (∀ i ∈ inf.news, s.h i = none) ∧ (∀ i ∈ inf.sets, (s.h i).isSome) ∧
      ∀ z : VS, (∀ d ∈ inf.slots, z.t d = s.t d) → (∀ i ∈ inf.fp, z.h i = s.h i) → (∀ i ∈ inf.news, z.h i = none) → (∀ i ∈ inf.sets, (z.h i).isSome) → Stp T E n ops z o inf ⟨putF z.t inf.dst v, updE z.h l⟩ := by
  obtain ⟨h0, h | ⟨h1, out, h2, h3, h4, h5, h8, h6, h7⟩⟩ := h
  · obtain ⟨h1, h2, h3⟩ := h
    have hd : inf.dst = o.dst := by rw [h2]
    refine ⟨_, [], by rw [hd]; exact h3, by rw [h2]; rfl, by rw [h2]; intro i hi; simp at hi, by rw [h2]; intro i hi; simp at hi, fun z ht hh hn hs => ⟨h0, .inl ⟨?_, h2, by rw [hd]; rfl⟩⟩⟩
    rw [wantedAV_congr (t := s.t) (fun d hd => ht d (by rw [h2]; exact hd))]; exact h1
  · have hd : inf.dst = o.dst := by rw [h6]; rfl
    have hsl : inf.slots = guardSlot ops o ++ tmpsOf (opers o.op) := by rw [h6]; rfl
    have hfp : inf.fp = fpOf ((opers o.op).map (opAV s.t)) s.h := by rw [h6]; rfl
    have hnw : inf.news = out.news.map (·.1) := by rw [h6]; rfl
    have hst : inf.sets = out.sets.map (·.1) := by rw [h6]; rfl
    refine ⟨_, _, by rw [hd]; exact h7, by rw [h6]; simp [infoOf], fun i hi => ?_, fun i hi => ?_, fun z ht hh hn hs => ?_⟩
    · rw [hnw] at hi
      obtain ⟨p, hp, rfl⟩ := List.mem_map.1 hi
      exact h4 p hp
    · rw [hst] at hi
      obtain ⟨p, hp, rfl⟩ := List.mem_map.1 hi
      exact h8.2 p hp
    · obtain ⟨e1, e2⟩ := evOp_congr (T := T) (E := E) (t := s.t) (t' := z.t) (h := s.h) (h' := z.h) (o := o) (fun d hd => ht d (by rw [hsl]; simp [hd])) (fun i hi => hh i (by rw [hfp]; exact hi))
      refine ⟨h0, .inr ⟨?_, out, e1.trans h2, h3, fun p hp => hn p.1 (by rw [hnw]; exact List.mem_map.2 ⟨p, hp, rfl⟩), h5, ⟨h8.1, fun p hp => hs p.1 (by rw [hst]; exact List.mem_map.2 ⟨p, hp, rfl⟩)⟩, ?_, by rw [hd]⟩⟩
      · rw [wantedAV_congr (t := s.t) (fun d hd => ht d (by rw [hsl]; simp [hd]))]; exact h1
      · have : infoOf ops z.t z.h inf.i o out = infoOf ops s.t s.h inf.i o out := by unfold infoOf; rw [e2]
        rw [this]; exact h6

theorem Stp.swap {T : Types} {E : Env} {n : Nat} {ops : List Oper} {s s1 s2 : VS} {x y : Oper} {ix iy : Info} (hx : Stp T E n ops s x ix s1) (hy : Stp T E n ops s1 y iy s2) (hi : ix.indep iy = true) :
    ∃ s1', Stp T E n ops s y iy s1' ∧ Stp T E n ops s1' x ix s2 := by
  unfold Info.indep at hi
  simp only [Bool.and_eq_true] at hi
  obtain ⟨⟨⟨d1, d2⟩, d3⟩, d4⟩ := hi
  obtain ⟨v, l, e1, k1, f1, g1, z1⟩ := hx.eff
  obtain ⟨u, r, e2, k2, f2, g2, z2⟩ := hy.eff
  have o1 : ∀ d ∈ iy.slots, ix.dst ≠ some d := fun d hd he => disj_out d1 (i := d) (by simp [he]) (by simp [hd])
  have o2 : ∀ d ∈ ix.slots, iy.dst ≠ some d := fun d hd he => disj_out d2 (i := d) (by simp [he]) (by simp [hd])
  have o3 : ∀ d, ix.dst = some d → iy.dst ≠ some d := fun d h1 h2 => disj_out d1 (i := d) (by simp [h1]) (by simp [h2])
  have o4 : ∀ i, (i ∈ iy.fp ∨ i ∈ iy.sets ∨ i ∈ iy.news) → i ∉ l.map (·.1) := fun i hi hl => by
    rw [k1] at hl
    exact disj_out d3 hl (by simpa [or_assoc] using hi)
  have o5 : ∀ i, (i ∈ ix.fp ∨ i ∈ ix.sets ∨ i ∈ ix.news) → i ∉ r.map (·.1) := fun i hi hl => by
    rw [k2] at hl
    exact disj_out d4 hl (by simpa [or_assoc] using hi)
  have hs1t : s1.t = putF s.t ix.dst v := by rw [e1]
  have hs1h : s1.h = updE s.h l := by rw [e1]
  have a1 := z2 s (fun d hd => by rw [hs1t, putF_out (o1 d hd)]) (fun i hi => by rw [hs1h, updE_out (o4 i (.inl hi))]) (fun i hi => by
    have := f2 i hi
    rw [hs1h, updE_out (o4 i (.inr (.inr hi)))] at this
    exact this) (fun i hi => by
    have := g2 i hi
    rw [hs1h, updE_out (o4 i (.inr (.inl hi)))] at this
    exact this)
  have a2 := z1 ⟨putF s.t iy.dst u, updE s.h r⟩ (fun d hd => putF_out (o2 d hd)) (fun i hi => updE_out (o5 i (.inl hi))) (fun i hi => by
    show updE s.h r i = none
    rw [updE_out (o5 i (.inr (.inr hi)))]; exact f1 i hi) (fun i hi => by
    show (updE s.h r i).isSome
    rw [updE_out (o5 i (.inr (.inl hi)))]; exact g1 i hi)
  refine ⟨_, a1, ?_⟩
  rw [e2, hs1t, hs1h]
  rw [putF_comm (fun i h1 h2 => o3 i h1 h2), updE_comm (fun i hl hr => ?_)]
  · exact a2
  · rw [k2] at hr
    refine o4 i ?_ hl
    rcases List.mem_append.1 hr with h | h
    · exact .inr (.inl h)
    · exact .inr (.inr h)

/-- A step that meets none ahead of it may be taken first. -/
theorem Chain.front {T : Types} {E : Env} {n : Nat} {ops : List Oper} {y : Oper × Info} : ∀ {l1 l2 : List (Oper × Info)} {s s' : VS}, Chain T E n ops s (l1 ++ y :: l2) s' → (∀ x ∈ l1, x.2.indep y.2 = true) →
    Chain T E n ops s (y :: (l1 ++ l2)) s'
  | [], l2, s, s', h, _ => h
  | x :: l1, l2, s, s', h, hi => by
    obtain ⟨s1, h1, h2⟩ := h
    obtain ⟨s2, h3, h4⟩ := Chain.front (l1 := l1) h2 (fun z hz => hi z (by simp [hz]))
    obtain ⟨s1', h5, h6⟩ := h1.swap h3 (hi x (by simp))
    exact ⟨s1', h5, s2, h6, h4⟩

end Go.Proofs.Ytmlolnaannoifaa

/- A region, in its own order or in any that its edges leave open. -/
namespace Go.Proofs.Ytmlolnaannoifaa

section
variable {C : Ctx} {m : Mem} {E : Env} {T : Types} {n : Nat} {a : Act}

theorem told_oneC {v : Value} (h : (ofConst v).told = true) : oneC v = true := by
  cases v <;> first | rfl | simp [ofConst, AV1.told] at h

theorem consts_cls : ∀ (l : List Value), (l.map ofConst).all AV1.told = true → CLs C m (l.map ofConst) l
  | [], _ => trivial
  | v :: l, h => by
    simp only [List.map_cons, List.all_cons, Bool.and_eq_true] at h
    exact ⟨⟨told_oneC h.1, ofConst_sound C m v⟩, consts_cls l h.2⟩

theorem avr_const (v : Value) : AVR C m (.one (ofConst v)) v := by
  by_cases h : (ofConst v).told = true
  · exact avr_of_one ⟨told_oneC h, ofConst_sound C m v⟩
  · have : ofConst v = .any := by
      cases hv : ofConst v <;> first | rfl | simp [hv, AV1.told] at h
    rw [this]; trivial

theorem opAV_sound {t : Nat → Option AV} (hs : StR C n t m a) (x : Operand) : AVR C m (opAV t x) (a.eval x) := by
  cases x with
  | tmp i =>
    simp only [opAV, Act.eval]
    cases h : t i with
    | none => trivial
    | some v => exact hs.slots i v h
  | const v =>
    simp only [opAV, Act.eval]
    unfold avOfConst
    split
    · rename_i cs
      split
      · rename_i h; exact ⟨cs, rfl, consts_cls _ h⟩
      · trivial
    · trivial
    · exact avr_const v
  | global g => trivial
  | func f => exact ⟨rfl, rfl, fun id hid => by simp at hid⟩

theorem opers_sound {t : Nat → Option AV} (hs : StR C n t m a) : ∀ l : List Operand, VRs C m (l.map (opAV t)) (l.map a.eval)
  | [] => trivial
  | x :: l => ⟨opAV_sound hs x, opers_sound hs l⟩

theorem put_getD (h : a.tmps.size = n) {d : Option Nat} (hd : ∀ i, d = some i → i < n) (v : Value) (i : Nat) :
    (a.put d v).tmps.getD i undef = if d = some i then v else a.tmps.getD i undef := by
  cases d with
  | none => rfl
  | some j =>
    have hj := hd j rfl
    simp only [Act.put]
    by_cases hij : j = i
    · subst hij
      simp [h, hj]
    · rw [if_neg (by simp [hij])]
      simp [Array.getElem?_setIfInBounds_ne hij]

theorem put_size {d : Option Nat} {v : Value} : (a.put d v).tmps.size = a.tmps.size := by cases d <;> simp [Act.put]
theorem put_defers' {d : Option Nat} {v : Value} : (a.put d v).defers = a.defers := by cases d <;> rfl

theorem strR_put {t : Nat → Option AV} (hs : StR C n t m a) {d : Option Nat} (hd : ∀ i, d = some i → i < n) {m' : Mem} (hm : MemR C m') (hx : Ext C m m') (hf : ∀ id, id < 65536 → (m'.h id).isSome → (m.h id).isSome) {av : AV} {v : Value} (hv : AVR C m' av v) :
    StR C n (putF t d av) m' (a.put d v) := by
  refine ⟨hm, put_size.trans hs.size, put_defers'.trans hs.defers, fun i u hu => ?_, fun id g cells hlt hfx hb => ?_⟩
  case refine_2 =>
    obtain ⟨e, he⟩ := Option.isSome_iff_exists.1 (hf id hlt (by rw [hb]; rfl))
    obtain ⟨e', he', hx'⟩ := hx.ent id e he
    rw [hb] at he'
    obtain rfl := Option.some.inj he'
    cases e with
    | box cells' => rw [show (m'.pl id).g = (m.pl id).g from hx']; exact hs.fixd id g cells' hlt hfx he
    | _ => exact hx'.elim
  rw [put_getD hs.size hd]
  unfold putF at hu
  by_cases hi : d = some i
  · rw [if_pos hi] at hu ⊢
    obtain rfl := Option.some.inj hu
    exact hv
  · rw [if_neg hi] at hu ⊢
    exact hx.AVR (hs.slots i u hu)

theorem wanted_sound {t : Nat → Option AV} (hs : StR C n t m a) {ops : Array Oper} {o : Oper} {b : Bool} (h : wantedAV ops.toList t o = some b) : Region.wanted o (yielded ops a.tmps) = b := by
  unfold wantedAV at h
  unfold Region.wanted
  split at h
  · rename_i hg
    rw [hg]
    simpa using h
  · rename_i j want hg
    rw [hg]
    simp only
    split at h
    · rename_i d hd
      split at h
      · rename_i bb ht
        have hv := avr_bool_inv (hs.slots d _ ht)
        have hlt : d < a.tmps.size := by
          rcases Nat.lt_or_ge d a.tmps.size with h' | h'
          · exact h'
          · rw [Array.getD_eq_getD_getElem?, Array.getElem?_eq_none h'] at hv
            simp [undef] at hv
        have hv' : a.tmps[d]? = some (.bool bb) := by
          rw [Array.getD_eq_getD_getElem?, Array.getElem?_eq_getElem hlt] at hv
          rw [Array.getElem?_eq_getElem hlt]
          simpa using hv
        unfold yielded
        rw [Array.getElem?_toList] at hd
        rw [hd]
        simp only [Option.bind_some, hv']
        simp only [Option.some.injEq] at h
        rw [← h]
        cases bb <;> cases want <;> rfl
      · rename_i ht
        simp only [Option.some.injEq] at h
        subst h
        obtain ⟨vs, hv, _⟩ := hs.slots d _ ht
        have hv' : ∀ b, a.tmps[d]? ≠ some (.bool b) := fun b hb => by
          rw [Array.getD_eq_getD_getElem?, hb] at hv
          cases hv
        unfold yielded
        rw [Array.getElem?_toList] at hd
        rw [hd]
        simp only [Option.bind_some]
        first
          | rfl
          | (split
             · rename_i b hb; exact absurd hb (hv' b)
             · rfl)
      · cases h
    · cases h

theorem viewOf_ok (fp : List Nat) (h : View) : ViewOK (viewOf fp h) h := fun id e hid => by
  unfold viewOf at hid
  split at hid
  · exact hid
  · cases hid

/-- One step taken. -/
theorem step_exec (hT : TyOK C.P T) (hE : EnvOK C.P E) {ops : Array Oper} {s s' : VS} {o : Oper} {inf : Info} (h : Stp T E n ops.toList s o inf s') (hs : StR C n s.t m a) (hh : m.h = s.h) {K : Act → World → Prop} {Q : Exit → Act → World → Prop}
    (hK : ∀ a' m', StR C n s'.t m' a' → m'.h = s'.h → K a' m'.w) :
    if Region.wanted o (yielded ops a.tmps) then o.wp C.P a m.w K Q ∨ (o.asks C.P a m.w ∧ LetsOut Q) else K (a.put o.dst undef) m.w := by
  obtain ⟨h0, h | ⟨h1, out, h2, h3, h4, h5, h8, h6, rfl⟩⟩ := h
  · obtain ⟨h1, h2, rfl⟩ := h
    rw [wanted_sound hs h1]
    simp only [Bool.false_eq_true, if_false]
    exact hK _ m (strR_put hs h0 hs.mem (Ext.refl C m) (fun _ _ h => h) ⟨#[], rfl, trivial⟩) hh
  · rw [wanted_sound hs h1]
    simp only [if_true]
    left
    have hex := core_sound (ρ := a.eval) (fun _ => rfl) hT hE o hs.mem (g := viewOf (fpOf ((opers o.op).map (opAV s.t)) s.h) s.h) (by rw [hh]; exact viewOf_ok _ _) (opers_sound hs (opers o.op)) h2 h3 (by rw [hh]; exact h4) h5
    have fin : ∀ v w', After C m out.av (out.sets ++ out.news) v w' → K (a.put o.dst v) w' := by
      rintro v w' ⟨U', pl', q1, q2, q3⟩
      exact hK _ ⟨U', pl', updE m.h (out.sets ++ out.news), w'⟩ (strR_put hs h0 q1 q2 (fun id hlt hsm => by
        by_cases hid : id ∈ (out.sets ++ out.news).map (·.1)
        · rw [List.map_append] at hid
          rcases List.mem_append.1 hid with h | h
          · obtain ⟨p, hp, rfl⟩ := List.mem_map.1 h
            rw [hh]; exact h8.2 p hp
          · obtain ⟨p, hp, rfl⟩ := List.mem_map.1 h
            have := h8.1 p hp
            omega
        · rw [show (⟨U', pl', updE m.h (out.sets ++ out.news), w'⟩ : Mem).h id = m.h id from updE_out hid] at hsm
          exact hsm) q3) (by rw [hh])
    unfold ExecOK at hex
    unfold Oper.wp
    split at hex
    · rename_i v w' hr
      rw [hr]
      exact fin _ _ hex
    · rename_i w' hr
      rw [hr]
      exact fin _ _ hex
    · rename_i f args w' hr
      rw [hr]
      refine Calls.mono hex ?_
      rintro e w'' ⟨v, rfl, hv⟩
      exact fin _ _ hv
    · exact hex.elim

theorem wpList_exec (hT : TyOK C.P T) (hE : EnvOK C.P E) {ops : Array Oper} {Q : Exit → Act → World → Prop} {s' : VS} (hQ : ∀ a' m', StR C n s'.t m' a' → m'.h = s'.h → Q .normal a' m'.w) :
    ∀ {l : List Oper} {infs : List Info} {s : VS} {m : Mem} {a : Act}, l.length = infs.length → Chain T E n ops.toList s (l.zip infs) s' → StR C n s.t m a → m.h = s.h → wpList C.P ops Q l a m.w
  | [], [], s, m, a, _, h, hs, hh => by
    obtain rfl : s' = s := h
    exact hQ a m hs hh
  | [], _ :: _, s, m, a, hl, h, hs, hh => by simp at hl
  | _ :: _, [], s, m, a, hl, h, hs, hh => by simp at hl
  | o :: l, inf :: infs, s, m, a, hl, h, hs, hh => by
    obtain ⟨s1, h1, h2⟩ := h
    unfold wpList
    exact step_exec hT hE h1 hs hh (fun a' m' hs' hh' => wpList_exec hT hE hQ (by simpa using hl) h2 hs' hh')

/- what stands ahead of what -/
theorem predsFrom_get : ∀ (l : List Oper) (acc : List (List Nat)), ∃ r, predsFrom l acc = acc ++ r ∧ r.length = l.length ∧
    ∀ j o, l[j]? = some o → ∀ k ∈ r.getD j [], ∃ e ∈ o.after, Region.binds .any e = true ∧ (k = e.on ∨ k ∈ (acc ++ r).getD e.on [])
  | [], acc => ⟨[], by simp [predsFrom], rfl, fun j o h => by simp at h⟩
  | o :: l, acc => by
    obtain ⟨r, h1, h2, h3⟩ := predsFrom_get l (acc ++ [o.after.toList.flatMap fun e => if Region.binds .any e then e.on :: (acc.getD e.on []) else []])
    refine ⟨(o.after.toList.flatMap fun e => if Region.binds .any e then e.on :: (acc.getD e.on []) else []) :: r, ?_, by simp [h2], fun j o' hj k hk => ?_⟩
    · show predsFrom l (acc ++ [_]) = _
      rw [h1]; simp
    · cases j with
      | zero =>
        simp only [List.getElem?_cons_zero, Option.some.injEq] at hj
        subst hj
        simp only [List.getD_cons_zero, List.mem_flatMap] at hk
        obtain ⟨e, he, hk⟩ := hk
        refine ⟨e, by simpa using he, ?_⟩
        split at hk
        · rename_i hb
          refine ⟨hb, ?_⟩
          rcases List.mem_cons.1 hk with h | h
          · exact .inl h
          · right
            have hlt : e.on < acc.length := by
              rcases Nat.lt_or_ge e.on acc.length with h' | h'
              · exact h'
              · rw [List.getD_eq_getElem?_getD, List.getElem?_eq_none h'] at h
                simp at h
            rw [List.getD_eq_getElem?_getD, List.getElem?_append_left hlt, ← List.getD_eq_getElem?_getD]
            exact h
        · simp at hk
      | succ j =>
        simp only [List.getElem?_cons_succ] at hj
        simp only [List.getD_cons_succ] at hk
        obtain ⟨e, he, hb, hx⟩ := h3 j o' hj k hk
        refine ⟨e, he, hb, hx.imp id fun h => ?_⟩
        simpa using h

theorem preds_spec {l : List Oper} {j : Nat} {o : Oper} (hj : l[j]? = some o) {k : Nat} (hk : k ∈ (predsFrom l []).getD j []) : ∃ e ∈ o.after, Region.binds .any e = true ∧ (k = e.on ∨ k ∈ (predsFrom l []).getD e.on []) := by
  obtain ⟨r, h1, _, h3⟩ := predsFrom_get l []
  rw [List.nil_append] at h1
  rw [h1] at hk ⊢
  exact h3 j o hj k hk

theorem edgesBack_spec : ∀ {l : List Oper} {i : Nat}, edgesBack l i = true → ∀ {j : Nat} {o : Oper}, l[j]? = some o → ∀ e ∈ o.after, Region.binds .any e = true → e.on < i + j
  | [], i, _, j, o, hj, e, he, _ => by simp at hj
  | o' :: l, i, h, j, o, hj, e, he, hbd => by
    simp only [edgesBack, Bool.and_eq_true, List.all_eq_true] at h
    cases j with
    | zero =>
      simp only [List.getElem?_cons_zero, Option.some.injEq] at hj
      subst hj
      have := h.1 e (by simpa using he)
      rw [hbd, Bool.not_true, Bool.false_or, Nat.blt_eq] at this
      omega
    | succ j =>
      have := edgesBack_spec h.2 (j := j) (by simpa using hj) e he hbd
      omega

def Meets (preds : List (List Nat)) (x y : Oper × Info) : Prop := x.2.i ∈ preds.getD y.2.i [] ∨ x.2.indep y.2 = true

theorem indepFrom_pairs {preds : List (List Nat)} : ∀ {infs : List Info} {l : List Oper}, indepFrom preds infs = true → l.length = infs.length → (l.zip infs).Pairwise (Meets preds)
  | [], [], _, _ => .nil
  | [], _ :: _, _, h => by simp at h
  | _ :: _, [], _, h => by simp at h
  | x :: infs, o :: l, h, hl => by
    simp only [indepFrom, Bool.and_eq_true, List.all_eq_true] at h
    refine .cons (fun y hy => ?_) (indepFrom_pairs h.2 (by simpa using hl))
    have := h.1 y.2 (List.of_mem_zip hy).2
    rw [Bool.or_eq_true] at this
    exact this.imp memN_mem.1 id

structure Inv (ops : Array Oper) (listed : Array Bool) (rem : List (Oper × Info)) : Prop where
  size : listed.size = ops.size
  left : ∀ j, listed.getD j true = false ↔ ∃ x ∈ rem, x.2.i = j
  op : ∀ x ∈ rem, ops[x.2.i]? = some x.1
  sorted : rem.Pairwise fun x y => x.2.i < y.2.i
  meets : rem.Pairwise (Meets (predsFrom ops.toList []))
  closed : ∀ j, listed.getD j false = true → ∀ k ∈ (predsFrom ops.toList []).getD j [], listed.getD k false = true

theorem getD_false_true {listed : Array Bool} {j : Nat} (h : listed.getD j false = true) : listed.getD j true = true := by
  rcases Nat.lt_or_ge j listed.size with h' | h'
  · simp only [Array.getD_eq_getD_getElem?, Array.getElem?_eq_getElem h'] at h ⊢
    exact h
  · simp only [Array.getD_eq_getD_getElem?, Array.getElem?_eq_none h'] at h
    simp at h

theorem Inv.ready_ne {ops : Array Oper} {listed : Array Bool} {x : Oper × Info} {rem : List (Oper × Info)} (h : Inv ops listed (x :: rem)) (hb : edgesBack ops.toList 0 = true) : x.2.i ∈ Region.ready .any ops listed := by
  rw [mem_ready]
  refine ⟨(h.left _).2 ⟨x, by simp, rfl⟩, x.1, h.op x (by simp), fun e he hbd => ?_⟩
  have hlt := edgesBack_spec hb (j := x.2.i) (o := x.1) (by rw [Array.getElem?_toList]; exact h.op x (by simp)) e he hbd
  rw [Nat.zero_add] at hlt
  have hsz : x.2.i < ops.size := by
    rcases Nat.lt_or_ge x.2.i ops.size with h' | h'
    · exact h'
    · have := h.op x (by simp)
      rw [Array.getElem?_eq_none h'] at this; cases this
  have hne : listed.getD e.on true ≠ false := fun hf => by
    obtain ⟨y, hy, hyi⟩ := (h.left _).1 hf
    rcases List.mem_cons.1 hy with rfl | hy
    · omega
    · have := List.rel_of_pairwise_cons h.sorted hy
      omega
  have hls : e.on < listed.size := by rw [h.size]; omega
  simp only [Array.getD_eq_getD_getElem?, Array.getElem?_eq_getElem hls] at hne ⊢
  simpa using hne

theorem wpAny_exec (hT : TyOK C.P T) (hE : EnvOK C.P E) {ops : Array Oper} (hb : edgesBack ops.toList 0 = true) {Q : Exit → Act → World → Prop} {s' : VS} (hQ : ∀ a' m', StR C n s'.t m' a' → m'.h = s'.h → Q .normal a' m'.w) :
    ∀ {fuel : Nat} {rem : List (Oper × Info)} {listed : Array Bool} {s : VS} {m : Mem} {a : Act}, fuel = rem.length → Inv ops listed rem → Chain T E n ops.toList s rem s' → StR C n s.t m a → m.h = s.h →
      wpAny C.P .any ops Q fuel listed a m.w
  | 0, rem, listed, s, m, a, hf, hI, hc, hs, hh => by
    have : rem = [] := List.length_eq_zero_iff.1 hf.symm
    subst this
    obtain rfl : s' = s := hc
    refine ⟨?_, hQ a m hs hh⟩
    cases hr : Region.ready .any ops listed with
    | nil => rfl
    | cons i _ =>
      have hi : i ∈ Region.ready .any ops listed := by rw [hr]; simp
      rw [mem_ready] at hi
      obtain ⟨x, hx, _⟩ := (hI.left i).1 hi.1
      simp at hx
  | fuel + 1, rem, listed, s, m, a, hf, hI, hc, hs, hh => by
    refine ⟨fun hr => ?_, fun i hi => ?_⟩
    · match rem, hI with
      | [], _ => simp at hf
      | x :: rem, hI =>
        have := hI.ready_ne hb
        rw [hr] at this
        simp at this
    · rw [mem_ready] at hi
      obtain ⟨hl, o, ho, hall⟩ := hi
      obtain ⟨x, hx, rfl⟩ := (hI.left i).1 hl
      obtain ⟨l1, l2, rfl⟩ := List.append_of_mem hx
      have hxo : o = x.1 := by
        have := hI.op x hx
        rw [ho] at this
        exact Option.some.inj this
      have hpre : ∀ k ∈ (predsFrom ops.toList []).getD x.2.i [], listed.getD k false = true := fun k hk => by
        obtain ⟨e, he, hbd, hor⟩ := preds_spec (by rw [Array.getElem?_toList]; exact ho) hk
        have hl := hall e he hbd
        rcases hor with rfl | hk'
        · exact hl
        · exact hI.closed _ hl k hk'
      have hfront := hc.front (l1 := l1) (y := x) (l2 := l2) (fun y hy => by
        have hp := List.pairwise_append.1 hI.meets
        rcases hp.2.2 y hy x (by simp) with h | h
        · have h1 := getD_false_true (hpre _ h)
          have h2 := (hI.left y.2.i).2 ⟨y, by simp [hy], rfl⟩
          rw [h1] at h2; cases h2
        · exact h)
      obtain ⟨s1, h1, h2⟩ := hfront
      unfold wpOp
      rw [ho]
      subst hxo
      have hsub : (l1 ++ l2).Sublist (l1 ++ x :: l2) := List.Sublist.append_left (List.sublist_cons_self _ _) _
      have hsort := List.pairwise_append.1 hI.sorted
      have hxne : ∀ y ∈ l1 ++ l2, y.2.i ≠ x.2.i := fun y hy => by
        rcases List.mem_append.1 hy with h | h
        · have := hsort.2.2 y h x (by simp); omega
        · have := List.rel_of_pairwise_cons hsort.2.1 h; omega
      refine step_exec hT hE h1 hs hh (fun a' m' hs' hh' => wpAny_exec hT hE hb hQ (rem := l1 ++ l2) (by simp at hf ⊢; omega) ⟨by simp [hI.size], fun j => ?_, fun y hy => hI.op y (hsub.subset hy), hI.sorted.sublist hsub, hI.meets.sublist hsub, fun j hj k hk => ?_⟩ h2 hs' hh')
      · by_cases hj : x.2.i = j
        · subst hj
          have hlt : x.2.i < listed.size := by
            rcases Nat.lt_or_ge x.2.i listed.size with h' | h'
            · exact h'
            · simp [Array.getElem?_eq_none h'] at hl
          constructor
          · intro h
            simp [hlt] at h
          · rintro ⟨y, hy, hyi⟩
            exact absurd hyi (hxne y hy)
        · rw [getD_set_ne true hj, hI.left j]
          constructor
          · rintro ⟨y, hy, hyi⟩
            simp only [List.mem_append, List.mem_cons] at hy
            rcases hy with hy | rfl | hy
            · exact ⟨y, by simp [hy], hyi⟩
            · exact absurd hyi hj
            · exact ⟨y, by simp [hy], hyi⟩
          · rintro ⟨y, hy, hyi⟩
            exact ⟨y, hsub.subset hy, hyi⟩
      · by_cases hjx : x.2.i = j
        · subst hjx
          exact getD_set_true (hpre k hk)
        · rw [getD_set_ne false hjx] at hj
          exact getD_set_true (hI.closed j hj k hk)

theorem wanted_listed (k : Nat) (j : Nat) : (Array.replicate k false).getD j true = false ↔ j < k := by
  rcases Nat.lt_or_ge j k with h | h
  · simp [h]
  · simp [Nat.not_lt.2 h]

theorem evRegion_sound (hT : TyOK C.P T) (hE : EnvOK C.P E) (hmix : C.P.follows .mixedOrders = true) {id : Nat} {ops : Array Oper} {draw : Bool} {s : St} {K : St → Prop} {Q : Exit → Act → World → Prop}
    (h : evRegion T E n ops.toList draw s K) (hs : StR C n s.vs.t m a) (hh : m.h = s.vs.h) (hQ : ∀ s' a' m', K s' → StR C n s'.vs.t m' a' → m'.h = s'.vs.h → Q .normal a' m'.w) :
    (Code.region id ops draw).wp C.P Q a m.w := by
  obtain ⟨infs, s', h1, h2, h3⟩ := evRun_chain _ _ _ _ h
  rw [List.nil_append] at h3
  have hlen : ops.toList.length = infs.length := by
    have := congrArg List.length h1
    simpa using this.symm
  cases draw with
  | false =>
    simp only [Bool.false_eq_true, if_false] at h3
    exact wp_region_list (wpList_exec hT hE (hQ s' · · h3) hlen h2 hs hh)
  | true =>
    simp only [if_true] at h3
    split at h3
    · rename_i hc
      rw [Bool.and_eq_true] at hc
      obtain ⟨q1, q2⟩ := memR_quiet hs.mem (drew_quiet m.w)
      have hs' : StR C n s.vs.t ⟨m.U, m.pl, m.h, m.w.drew⟩ a := ⟨q1, hs.size, hs.defers, fun i v hv => q2.AVR (hs.slots i v hv), hs.fixd⟩
      have hidx : ∀ k, ∀ x ∈ (ops.toList.zip infs), x.2.i = k → (ops.toList)[k]? = some x.1 := fun k x hx hk => by
        obtain ⟨j, hj, hxj⟩ := List.mem_iff_getElem.1 hx
        simp only [List.length_zip, ← hlen, Nat.min_self] at hj
        have hj2 : j < infs.length := by omega
        rw [List.getElem_zip] at hxj
        have hi : infs[j].i = j := by
          have : (infs.map (·.i))[j]'(by simpa using hj2) = (List.range' 0 ops.toList.length)[j]'(by simpa using hj) := by simp only [h1]
          simpa using this
        have : x.2.i = j := by rw [← hxj]; exact hi
        rw [← hk, this, List.getElem?_eq_getElem hj, ← hxj]
      refine wp_region_any hmix (wpAny_exec hT hE hc.1 (hQ s' · · h3) (rem := ops.toList.zip infs) (s := s.vs) (m := ⟨m.U, m.pl, m.h, m.w.drew⟩) (by simp [← hlen]) ⟨by simp, fun j => ?_, fun x hx => ?_, ?_, indepFrom_pairs hc.2 hlen, fun j hj => ?_⟩ h2 hs' hh)
      · rw [wanted_listed]
        constructor
        · intro hj
          have hj1 : j < ops.toList.length := by simpa using hj
          have hj2 : j < infs.length := by omega
          refine ⟨(ops.toList[j], infs[j]), List.mem_iff_getElem.2 ⟨j, by simp [← hlen]; exact hj, by rw [List.getElem_zip]⟩, ?_⟩
          have : (infs.map (·.i))[j]'(by simpa using hj2) = (List.range' 0 ops.toList.length)[j]'(by simpa using hj1) := by simp only [h1]
          simpa using this
        · rintro ⟨x, hx, hxi⟩
          have := hidx j x hx hxi
          rcases Nat.lt_or_ge j ops.size with h' | h'
          · exact h'
          · rw [List.getElem?_eq_none (by simpa using h')] at this; cases this
      · have := hidx _ x hx rfl
        rwa [Array.getElem?_toList] at this
      · have hp : (infs.map (·.i)).Pairwise (· < ·) := by rw [h1]; exact List.pairwise_lt_range'
        rw [List.pairwise_map] at hp
        have : ((ops.toList.zip infs).map (·.2)).Pairwise fun x y => x.i < y.i := by
          rw [List.map_snd_zip (by omega)]; exact hp
        rwa [List.pairwise_map] at this
      · simp only [Array.getD_eq_getD_getElem?] at hj
        rcases Nat.lt_or_ge j ops.size with h' | h'
        · simp [h'] at hj
        · simp [Nat.not_lt.2 h'] at hj
    · exact h3.elim
end
end Go.Proofs.Ytmlolnaannoifaa

/- A state told less of. -/
namespace Go.Proofs.Ytmlolnaannoifaa

section
variable {C : Ctx} {m : Mem} {n : Nat} {a : Act}

theorem entsLe_out {h : Ents} : ∀ {l : Ents} {q : Prop}, entsLe h l q → (∀ id e, (id, e) ∈ l → ∃ e', get1 h id = some e' ∧ entle e' e) ∧ q
  | [], q, h => ⟨fun _ _ h => by simp at h, h⟩
  | (id, e) :: l, q, h => by
    obtain ⟨h1, h2⟩ := h
    obtain ⟨h3, h4⟩ := entsLe_out h2
    refine ⟨fun i x hx => ?_, h4⟩
    rcases List.mem_cons.1 hx with hx | hx
    · simp only [Prod.mk.injEq] at hx
      obtain ⟨rfl, rfl⟩ := hx
      split at h1
      · rename_i e' he'; exact ⟨e', he', h1⟩
      · exact h1.elim
    · exact h3 i x hx

theorem slotsLe_out {t : List (Nat × AV)} : ∀ {l : List (Nat × AV)} {q : Prop}, slotsLe t l q → (∀ i v, (i, v) ∈ l → avle ((get1 t i).getD (.one .any)) v) ∧ q
  | [], q, h => ⟨fun _ _ h => by simp at h, h⟩
  | (id, e) :: l, q, h => by
    obtain ⟨h1, h2⟩ := h
    obtain ⟨h3, h4⟩ := slotsLe_out h2
    refine ⟨fun i x hx => ?_, h4⟩
    rcases List.mem_cons.1 hx with hx | hx
    · simp only [Prod.mk.injEq] at hx
      obtain ⟨rfl, rfl⟩ := hx
      exact h1
    · exact h3 i x hx

/-- Each entry of the lesser memory is one of the greater. -/
def Less (h h0 : View) : Prop := ∀ id e, h0 id = some e → ∃ e', h id = some e' ∧ entle e' e

theorem cast_eq {a b : Kd} {x : a.T} {y : b.T} (h : (match Kd.cast a b x with | some x' => x' = y | none => False)) : ∃ q : a = b, q ▸ x = y := by
  cases hc : Kd.cast a b x with
  | none => rw [hc] at h; exact h.elim
  | some z =>
    rw [hc] at h
    simp only at h
    subst h
    exact cast_some hc

theorem less_arr {e0 : Ent} {e : Kd} {n : Nat} {xs : List e.T} (h : entle (.arr e n xs) e0) : e0 = .arr e n xs := by
  cases e0 with
  | arr e' n' ys =>
    simp only [entle] at h
    cases hc : Kd.cast (.sl e) (.sl e') xs with
    | none => rw [hc] at h; exact h.elim
    | some z =>
      rw [hc] at h
      obtain ⟨rfl, rfl⟩ := h
      obtain ⟨q, rfl⟩ := cast_sl hc
      subst q; rfl
  | _ => exact h.elim

theorem less_vec {e0 : Ent} {e : Kd} {xs : List e.T} (h : entle (.vec e xs) e0) : e0 = .vec e xs := by
  cases e0 with
  | vec e' ys =>
    simp only [entle] at h
    cases hc : Kd.cast (.sl e) (.sl e') xs with
    | none => rw [hc] at h; exact h.elim
    | some z =>
      rw [hc] at h
      obtain rfl := h
      obtain ⟨q, rfl⟩ := cast_sl hc
      subst q; rfl
  | _ => exact h.elim

theorem less_frz {e0 : Ent} {e : Kd} {n : Nat} {xs : List e.T} (h : entle (.frz e n xs) e0) : ∃ e' ys, e0 = .frz e' n ys := by
  cases e0 with
  | frz e' n' ys =>
    simp only [entle] at h
    split at h
    · rename_i hn; subst hn; exact ⟨_, _, rfl⟩
    · exact h.elim
  | _ => exact h.elim

theorem less_box {e0 : Ent} {cells : List AV1} (h : entle (.box cells) e0) : ∃ l, e0 = .box l ∧ avles1 cells l True := by
  cases e0 with
  | box l => exact ⟨l, rfl, h⟩
  | _ => exact h.elim

def lessM (m : Mem) (h0 : View) : Mem := ⟨m.U, m.pl, h0, m.w⟩

theorem avle1_sound {h0 : View} (hl : Less m.h h0) {x y : AV1} {v : Value} (hx : AVR1 C m x v) (h : avle1 x y) (hid : ∀ id ∈ idsOf1 y, (h0 id).isSome) : AVR1 C (lessM m h0) y v := by
  have get : ∀ id ∈ idsOf1 y, ∃ e0 e', h0 id = some e0 ∧ m.h id = some e' ∧ entle e' e0 := fun id hi => by
    obtain ⟨e0, he0⟩ := Option.isSome_iff_exists.1 (hid id hi)
    obtain ⟨e', he', hle⟩ := hl id e0 he0
    exact ⟨e0, e', he0, he', hle⟩
  have gone : ∀ {id : Nat}, id ∈ idsOf1 y → Gone m id → Gone (lessM m h0) id := fun {id} hi hb => by
    obtain ⟨e0, e', h1, h2, h3⟩ := get id hi
    obtain ⟨e, xs, hb⟩ := hb
    rw [h2] at hb
    obtain rfl := Option.some.inj hb
    obtain ⟨e2, ys, rfl⟩ := less_frz h3
    exact ⟨e2, ys, h1⟩
  have box : ∀ {id : Nat}, id ∈ idsOf1 y → ((∃ cells, m.h id = some (.box cells)) ∨ (∃ e n xs, m.h id = some (.arr e n xs)) ∨ Gone m id) → ((∃ cells, h0 id = some (.box cells)) ∨ (∃ e n xs, h0 id = some (.arr e n xs)) ∨ Gone (lessM m h0) id) := fun {id} hi hb => by
    obtain ⟨e0, e', h1, h2, h3⟩ := get id hi
    rcases hb with ⟨cells, hb⟩ | ⟨e, n, xs, hb⟩ | hb
    · rw [h2] at hb
      obtain rfl := Option.some.inj hb
      obtain ⟨l, rfl, _⟩ := less_box h3
      exact .inl ⟨l, h1⟩
    · rw [h2] at hb
      obtain rfl := Option.some.inj hb
      obtain rfl := less_arr h3
      exact .inr (.inl ⟨_, _, _, h1⟩)
    · exact .inr (.inr (gone hi hb))
  have arr : ∀ {id : Nat} {e : Kd} {n : Nat} {xs : List e.T}, id ∈ idsOf1 y → m.h id = some (.arr e n xs) → h0 id = some (.arr e n xs) := fun {id e n xs} hi hb => by
    obtain ⟨e0, e', h1, h2, h3⟩ := get id hi
    rw [h2] at hb
    obtain rfl := Option.some.inj hb
    obtain rfl := less_arr h3
    exact h1
  cases y with
  | any => trivial
  | d k' y =>
    cases x with
    | d k x =>
      simp only [avle1] at h
      obtain ⟨q, rfl⟩ := cast_eq h
      subst q
      exact hx
    | _ => exact h.elim
  | osl e' id' n' =>
    cases x with
    | osl e id n =>
      simp only [avle1] at h
      split at h
      · rename_i hc
        obtain ⟨rfl, rfl⟩ := hc
        subst h
        obtain ⟨e0, e', h1, h2, h3⟩ := get id (by simp [idsOf1])
        obtain ⟨A, c, hv, e1, xs, hor⟩ := hx
        refine ⟨A, c, hv, ?_⟩
        rcases hor with ⟨q1, q2, q3⟩ | q1
        · rw [h2] at q1
          obtain rfl := Option.some.inj q1
          obtain rfl := less_vec h3
          exact ⟨e1, xs, .inl ⟨h1, q2, q3⟩⟩
        · rw [h2] at q1
          obtain rfl := Option.some.inj q1
          obtain ⟨e2, ys, rfl⟩ := less_frz h3
          exact ⟨e2, ys, .inr h1⟩
      · exact h.elim
    | _ => exact h.elim
  | nilsl =>
    cases x with
    | nilsl => exact hx
    | _ => exact h.elim
  | ptr id' off' =>
    cases x with
    | ptr id off =>
      simp only [avle1] at h
      split at h
      · rename_i hc
        obtain ⟨rfl, rfl⟩ := hc
        exact ⟨hx.1, box (by simp [idsOf1]) hx.2⟩
      · exact h.elim
    | _ => exact h.elim
  | eptr id' i' off' =>
    cases x with
    | eptr id i off =>
      simp only [avle1] at h
      split at h
      · rename_i hc
        obtain ⟨rfl, rfl⟩ := hc
        subst h
        obtain ⟨ad, hv, hx⟩ := hx
        refine ⟨ad, hv, ?_⟩
        rcases hx with ⟨e, n, xs, hb, hA⟩ | hb
        · exact .inl ⟨e, n, xs, arr (by simp [idsOf1]) hb, hA⟩
        · exact .inr (gone (by simp [idsOf1]) hb)
      · exact h.elim
    | _ => exact h.elim
  | cptr k' y =>
    cases x with
    | cptr k x =>
      simp only [avle1] at h
      obtain ⟨q, rfl⟩ := cast_eq h
      subst q
      exact hx
    | _ => exact h.elim
  | msl id' =>
    cases x with
    | msl id =>
      simp only [avle1] at h
      split at h
      · rename_i hc
        subst hc
        obtain ⟨A, n, c, hv, hx⟩ := hx
        refine ⟨A, n, c, hv, ?_⟩
        rcases hx with ⟨e, xs, hb, hA⟩ | hb
        · exact .inl ⟨e, xs, arr (by simp [idsOf1]) hb, hA⟩
        · exact .inr (gone (by simp [idsOf1]) hb)
      · exact h.elim
    | _ => exact h.elim
  | clo f' caps' =>
    cases x with
    | clo f caps =>
      simp only [avle1] at h
      split at h
      · rename_i hc
        obtain ⟨rfl, rfl⟩ := hc
        exact ⟨hx.1, fun id hi => box (by simpa [idsOf1] using hi) (hx.2 id hi)⟩
      · exact h.elim
    | _ => exact h.elim
  | fnv a' r' p' =>
    cases x with
    | fnv a r p =>
      simp only [avle1] at h
      split at h
      · rename_i hc
        obtain ⟨rfl, rfl⟩ := hc
        simp only at h
        subst h
        exact hx
      · exact h.elim
    | _ => exact h.elim
  | nilp =>
    cases x with
    | nilp => exact hx
    | _ => exact h.elim
  | msb _ _ _ =>
    cases x with
    | _ => exact h.elim
  | pb _ =>
    cases x with
    | _ => exact h.elim

theorem avles1_sound {h0 : View} (hl : Less m.h h0) : ∀ {l r : List AV1} {vs : List Value} {q : Prop}, CLs C m l vs → avles1 l r q → (∀ x ∈ r, ∀ id ∈ idsOf1 x, (h0 id).isSome) → CLs C (lessM m h0) r vs
  | [], [], [], q, _, _, _ => trivial
  | a :: l, b :: r, v :: vs, q, hc, h, hid => ⟨⟨hc.1.1, avle1_sound hl hc.1.2 h.1 (hid b (by simp))⟩, avles1_sound hl hc.2 h.2 (fun x hx => hid x (by simp [hx]))⟩
  | [], [], _ :: _, _, hc, _, _ => hc.elim
  | [], _ :: _, _, _, _, h, _ => h.elim
  | _ :: _, [], _, _, _, h, _ => h.elim
  | _ :: _, _ :: _, [], _, hc, _, _ => hc.elim

theorem avle_sound {h0 : View} (hl : Less m.h h0) {x y : AV} {v : Value} (hx : AVR C m x v) (h : avle x y) (hid : ∀ id ∈ idsOf y, (h0 id).isSome) : AVR C (lessM m h0) y v := by
  by_cases hy : y = .one .any
  · subst hy; trivial
  · cases y with
    | one b =>
      have hb : b ≠ .any := fun e => hy (by rw [e])
      cases x with
      | one a =>
        have h' : avle1 a b := by
          cases b <;> first | exact absurd rfl hb | exact h
        have ha : a ≠ .any := fun e => by
          subst e
          cases b <;> first | exact hb rfl | exact h'.elim
        obtain ⟨q1, q2⟩ := avr_one hx ha
        exact avr_of_one ⟨q1, avle1_sound hl q2 h' (by simpa [idsOf] using hid)⟩
      | agg l => cases b <;> first | exact absurd rfl hb | exact h.elim
      | tup l => cases b <;> first | exact absurd rfl hb | exact h.elim
    | agg r =>
      cases x with
      | agg l =>
        obtain ⟨cs, hv, hc⟩ := hx
        exact ⟨cs, hv, avles1_sound hl hc h (fun x hx id hi => hid id (by simp only [idsOf, List.mem_flatMap]; exact ⟨x, hx, hi⟩))⟩
      | one a => exact h.elim
      | tup l => exact h.elim
    | tup r => cases x <;> exact h.elim

theorem le_sound {s s0 : St} {q : Prop} (h : le s s0 q) (hs : StR C n s.vs.t m a) (hh : m.h = s.vs.h) : q ∧ StR C n s0.vs.t (lessM m s0.vs.h) a := by
  unfold le at h
  split at h
  · rename_i hw
    obtain ⟨h1, h2⟩ := slotsLe_out h
    obtain ⟨h3, h4⟩ := entsLe_out h2
    unfold wellS at hw
    simp only [Bool.and_eq_true, List.all_eq_true] at hw
    obtain ⟨⟨⟨w1, w2⟩, _⟩, _⟩ := hw
    have hl : Less m.h s0.vs.h := fun id e he => by
      obtain ⟨e', q1, q2⟩ := h3 id e (get1_some he)
      exact ⟨e', by rw [hh]; exact q1, q2⟩
    have key : ∀ id e0, s0.vs.h id = some e0 → ∃ e', m.h id = some e' ∧ entle e' e0 ∧ ∀ pl, blkOf pl e0 = blkOf pl e' := fun id e0 he0 => by
      obtain ⟨e', q1, q2⟩ := hl id e0 he0
      refine ⟨e', q1, q2, fun pl => ?_⟩
      cases e' with
      | box l => obtain ⟨r, rfl, _⟩ := less_box q2; rfl
      | arr e n xs => obtain rfl := less_arr q2; rfl
      | vec e xs => obtain rfl := less_vec q2; rfl
      | frz e n xs => obtain ⟨_, _, rfl⟩ := less_frz q2; rfl
    refine ⟨h4, ⟨hs.mem.post, fun id e0 he0 => ?_, fun i j e1 e2 g q1 q2 b1 b2 => ?_, fun id e g he hb => ?_⟩, hs.size, hs.defers, fun i v hv => ?_, fun id g cells hlt hf hb => ?_⟩
    · obtain ⟨e', q1, q2, _⟩ := key id e0 he0
      have hE := hs.mem.ents id e' q1
      cases e' with
      | box l =>
        obtain ⟨r, rfl, hr⟩ := less_box q2
        obtain ⟨cs, ty, k1, k2, k3⟩ := hE
        refine ⟨cs, ty, k1, avles1_sound hl k2 hr (fun x hx i hi => ?_), k3⟩
        exact w2 (id, .box r) (get1_some he0) i (by simp only [idsEnt, List.mem_flatMap]; exact ⟨x, hx, hi⟩)
      | arr e n xs => obtain rfl := less_arr q2; exact hE
      | vec e xs => obtain rfl := less_vec q2; exact hE
      | frz e n xs => obtain ⟨_, _, rfl⟩ := less_frz q2; trivial
    · obtain ⟨e1', p1, _, r1⟩ := key i e1 q1
      obtain ⟨e2', p2, _, r2⟩ := key j e2 q2
      exact hs.mem.apart i j e1' e2' g p1 p2 (by rw [← r1]; exact b1) (by rw [← r2]; exact b2)
    · obtain ⟨e', p1, _, r1⟩ := key id e he
      exact hs.mem.where_ id e' g p1 (by rw [← r1]; exact hb)
    · have hin := get1_some hv
      have hav : AVR C m ((get1 s.t i).getD (.one .any)) (a.tmps.getD i undef) := by
        cases hg : get1 s.t i with
        | none => trivial
        | some u => exact hs.slots i u hg
      exact avle_sound hl hav (h1 i v hin) (fun id hi => w1 (i, v) hin id hi)
    · obtain ⟨e', p1, p2, _⟩ := key id _ hb
      cases e' with
      | box l => exact hs.fixd id g l hlt hf p1
      | _ => exact p2.elim
  · exact h.elim
end
end Go.Proofs.Ytmlolnaannoifaa

/- Names of blocks changed at a loop's head. -/
namespace Go.Proofs.Ytmlolnaannoifaa

section
variable {C : Ctx} {m : Mem} {n : Nat} {a : Act}

structure Ren (f : Nat → Option Nat) (m : Mem) (h' : View) (pl' : Nat → Place) : Prop where
  to : ∀ id e j, m.h id = some e → f id = some j → h' j = some (renEnt f e) ∧ pl' j = m.pl id
  of : ∀ j e', h' j = some e' → ∃ id e, f id = some j ∧ m.h id = some e ∧ e' = renEnt f e
  keep : ∀ id e, m.h id = some e → (∀ k xs, e ≠ .vec k xs) → (∀ k xs, e ≠ .frz k 0 xs) → f id = some id

def renM (m : Mem) (h' : View) (pl' : Nat → Place) : Mem := ⟨m.U, pl', h', m.w⟩

theorem Ren.box {f : Nat → Option Nat} {h' : View} {pl' : Nat → Place} (r : Ren f m h' pl') {id : Nat} {cells : List AV1} (h : m.h id = some (.box cells)) : h' id = some (.box (cells.map (ren1 f))) ∧ pl' id = m.pl id :=
  r.to id _ id h (r.keep id _ h (fun _ _ h => by cases h) (fun _ _ h => by cases h))

theorem Ren.arr {f : Nat → Option Nat} {h' : View} {pl' : Nat → Place} (r : Ren f m h' pl') {id : Nat} {e : Kd} {k : Nat} {xs : List e.T} (h : m.h id = some (.arr e k xs)) : h' id = some (.arr e k xs) ∧ pl' id = m.pl id :=
  r.to id _ id h (r.keep id _ h (fun _ _ h => by cases h) (fun _ _ h => by cases h))

theorem Ren.gone {f : Nat → Option Nat} {h' : View} {pl' : Nat → Place} (r : Ren f m h' pl') {id : Nat} (h : Gone m id) : Gone (renM m h' pl') id ∧ pl' id = m.pl id := by
  obtain ⟨e, xs, h⟩ := h
  obtain ⟨k1, k2⟩ := r.to id _ id h (r.keep id _ h (fun _ _ h => by cases h) (fun _ _ h => by cases h))
  exact ⟨⟨e, xs, k1⟩, k2⟩

theorem Ren.avr1 {f : Nat → Option Nat} {h' : View} {pl' : Nat → Place} (r : Ren f m h' pl') {x : AV1} {v : Value} (hx : AVR1 C m x v) : AVR1 C (renM m h' pl') (ren1 f x) v := by
  cases x with
  | osl e id k =>
    simp only [ren1]
    split
    · rename_i j hj
      obtain ⟨A, c, hv, e1, xs, hor⟩ := hx
      refine ⟨A, c, hv, ?_⟩
      rcases hor with ⟨q1, q2, q3⟩ | q1
      · obtain ⟨k1, k2⟩ := r.to id _ j q1 hj
        exact ⟨e1, xs, .inl ⟨k1, q2, fun h => by show A = (pl' j).A ∧ c = (pl' j).cap; rw [k2]; exact q3 h⟩⟩
      · obtain ⟨k1, k2⟩ := r.to id _ j q1 hj
        exact ⟨e1, xs, .inr k1⟩
    · trivial
  | ptr id off =>
    obtain ⟨hv, hor⟩ := hx
    rcases hor with ⟨cells, q⟩ | ⟨e, k, xs, q⟩ | q
    · obtain ⟨k1, k2⟩ := r.box q
      exact ⟨by show v = Value.pointer (some ⟨(pl' id).g, off, none⟩); rw [k2]; exact hv, .inl ⟨_, k1⟩⟩
    · obtain ⟨k1, k2⟩ := r.arr q
      exact ⟨by show v = Value.pointer (some ⟨(pl' id).g, off, none⟩); rw [k2]; exact hv, .inr (.inl ⟨_, _, _, k1⟩)⟩
    · obtain ⟨k1, k2⟩ := r.gone q
      exact ⟨by show v = Value.pointer (some ⟨(pl' id).g, off, none⟩); rw [k2]; exact hv, .inr (.inr k1)⟩
  | eptr id i off =>
    obtain ⟨ad, hv, hor⟩ := hx
    refine ⟨ad, hv, ?_⟩
    rcases hor with ⟨e, k, xs, q, hA⟩ | q
    · obtain ⟨k1, k2⟩ := r.arr q
      exact .inl ⟨e, k, xs, k1, by show ad = ⟨(pl' id).g, _, none⟩; rw [k2]; exact hA⟩
    · exact .inr (r.gone q).1
  | msl id =>
    obtain ⟨A, k, c, hv, hor⟩ := hx
    refine ⟨A, k, c, hv, ?_⟩
    rcases hor with ⟨e, xs, q, hc, hA⟩ | q
    · obtain ⟨k1, k2⟩ := r.arr q
      exact .inl ⟨e, xs, k1, hc, by show A = some ⟨(pl' id).g, 0, none⟩; rw [k2]; exact hA⟩
    · exact .inr (r.gone q).1
  | msb id lo n =>
    obtain ⟨A, c, hv, hor⟩ := hx
    refine ⟨A, c, hv, ?_⟩
    rcases hor with ⟨e, k, xs, q, hle, hc, hA⟩ | q
    · obtain ⟨k1, k2⟩ := r.arr q
      exact .inl ⟨e, k, xs, k1, hle, hc, fun hn => by show A = some ⟨(pl' id).g, _, none⟩; rw [k2]; exact hA hn⟩
    · exact .inr (r.gone q).1
  | clo fn caps =>
    obtain ⟨hv, hor⟩ := hx
    have key : ∀ id ∈ caps, (pl' id).g = (m.pl id).g ∧ ((∃ cells, h' id = some (.box cells)) ∨ (∃ e n xs, h' id = some (.arr e n xs)) ∨ Gone (renM m h' pl') id) := fun id hid => by
      rcases hor id hid with ⟨cells, q⟩ | ⟨e, k, xs, q⟩ | q
      · obtain ⟨k1, k2⟩ := r.box q
        exact ⟨by rw [k2], .inl ⟨_, k1⟩⟩
      · obtain ⟨k1, k2⟩ := r.arr q
        exact ⟨by rw [k2], .inr (.inl ⟨_, _, _, k1⟩)⟩
      · obtain ⟨k1, k2⟩ := r.gone q
        exact ⟨by rw [k2], .inr (.inr k1)⟩
    refine ⟨?_, fun id hid => (key id hid).2⟩
    rw [hv]
    congr 2
    refine List.map_congr_left fun id hid => ?_
    show _ = Value.pointer (some ⟨(pl' id).g, 0, none⟩)
    rw [(key id hid).1]
  | d k x => exact hx
  | nilsl => exact hx
  | cptr k x => exact hx
  | fnv _ _ p => exact hx
  | nilp => exact hx
  | pb _ => exact hx
  | any => trivial

theorem Ren.cls {f : Nat → Option Nat} {h' : View} {pl' : Nat → Place} (r : Ren f m h' pl') : ∀ {l : List AV1} {vs : List Value}, CLs C m l vs → CLs C (renM m h' pl') (l.map (ren1 f)) vs
  | [], [], _ => trivial
  | _ :: _, _ :: _, h => ⟨⟨h.1.1, r.avr1 h.1.2⟩, r.cls h.2⟩
  | [], _ :: _, h => h.elim
  | _ :: _, [], h => h.elim

theorem Ren.avr {f : Nat → Option Nat} {h' : View} {pl' : Nat → Place} (r : Ren f m h' pl') {x : AV} {v : Value} (hx : AVR C m x v) : AVR C (renM m h' pl') (renAV f x) v := by
  cases x with
  | one x =>
    by_cases h : x = .any
    · subst h; trivial
    · obtain ⟨q1, q2⟩ := avr_one hx h
      exact avr_of_one ⟨q1, r.avr1 q2⟩
  | agg l =>
    obtain ⟨cs, hv, hc⟩ := hx
    exact ⟨cs, hv, r.cls hc⟩
  | tup l => trivial

theorem blkOf_ren {f : Nat → Option Nat} {pl : Place} {e : Ent} : blkOf pl (renEnt f e) = blkOf pl e := by cases e <;> rfl

theorem Ren.strR {f : Nat → Option Nat} {h' : View} {pl' : Nat → Place} (r : Ren f m h' pl') {t t' : Nat → Option AV} (hs : StR C n t m a) (ht : ∀ i v, t' i = some v → ∃ u, t i = some u ∧ v = renAV f u) :
    StR C n t' (renM m h' pl') a := by
  refine ⟨⟨hs.mem.post, fun j e' he' => ?_, fun i j e1 e2 g q1 q2 b1 b2 => ?_, fun j e g he hb => ?_⟩, hs.size, hs.defers, fun i v hv => ?_, fun j g cells hlt hf hb => ?_⟩
  · obtain ⟨id, e, hf, he, rfl⟩ := r.of j e' he'
    obtain ⟨_, k2⟩ := r.to id e j he hf
    have hE := hs.mem.ents id e he
    show EntR C (renM m h' pl') (pl' j) (renEnt f e)
    rw [k2]
    cases e with
    | box cells =>
      obtain ⟨cs, ty, q1, q2, q3⟩ := hE
      exact ⟨cs, ty, q1, r.cls q2, q3⟩
    | arr _ _ _ => exact hE
    | vec _ _ => exact hE
    | frz _ _ _ => trivial
  · obtain ⟨id1, x1, f1, g1, rfl⟩ := r.of i e1 q1
    obtain ⟨id2, x2, f2, g2, rfl⟩ := r.of j e2 q2
    obtain ⟨_, k1⟩ := r.to id1 x1 i g1 f1
    obtain ⟨_, k2⟩ := r.to id2 x2 j g2 f2
    have b1' : blkOf (m.pl id1) x1 = some g := by rw [← k1, ← blkOf_ren (f := f)]; exact b1
    have b2' : blkOf (m.pl id2) x2 = some g := by rw [← k2, ← blkOf_ren (f := f)]; exact b2
    have := hs.mem.apart id1 id2 x1 x2 g g1 g2 b1' b2'
    subst this
    exact Option.some.inj (f1.symm.trans f2)
  · obtain ⟨id, x, f1, g1, rfl⟩ := r.of j e he
    obtain ⟨_, k1⟩ := r.to id x j g1 f1
    exact hs.mem.where_ id x g g1 (by rw [← k1, ← blkOf_ren (f := f)]; exact hb)
  · obtain ⟨u, hu, rfl⟩ := ht i v hv
    exact r.avr (hs.slots i u hu)
  · obtain ⟨id, x, f1, g1, hx⟩ := r.of j _ hb
    cases x with
    | box l =>
      have f2 := r.keep id _ g1 (fun _ _ h => by cases h) (fun _ _ h => by cases h)
      rw [f1] at f2
      obtain rfl := Option.some.inj f2
      show (pl' j).g = g
      rw [(r.to j _ j g1 f1).2]
      exact hs.fixd j g l hlt hf g1
    | _ => cases hx

theorem get1_map {α β : Type} {f : α → β} : ∀ (l : List (Nat × α)) (i : Nat), get1 (l.map fun p => (p.1, f p.2)) i = (get1 l i).map f
  | [], _ => rfl
  | (j, v) :: l, i => by
    simp only [List.map_cons, get1_cons]
    by_cases h : i = j
    · rw [if_pos h, if_pos h]; rfl
    · rw [if_neg h, if_neg h]; exact get1_map l i

theorem get1_filter {α : Type} (id : Nat) : ∀ (l : List (Nat × α)) (i : Nat), get1 (l.filter fun p => !Nat.beq p.1 id) i = if i = id then none else get1 l i
  | [], i => by simp [get1]
  | (j, v) :: l, i => by
    by_cases hj : j = id
    · subst hj
      simp only [List.filter_cons, Nat.beq_refl, Bool.not_true, Bool.false_eq_true, if_false]
      rw [get1_filter j l i, get1_cons]
      by_cases h : i = j
      · rw [if_pos h, if_pos h]
      · rw [if_neg h, if_neg h, if_neg h]
    · simp only [List.filter_cons, nbeq_ne hj, Bool.not_false, if_true, get1_cons]
      rw [get1_filter id l i]
      by_cases h : i = j
      · rw [if_pos h, if_neg (by omega), if_pos h]
      · rw [if_neg h]
        by_cases h2 : i = id
        · rw [if_pos h2, if_pos h2]
        · rw [if_neg h2, if_neg h2, if_neg h]

theorem get1_rekey {f : Ent → Ent} {old new : Nat} (hne : old ≠ new) : ∀ (l : Ents) (_ : get1 l new = none) (i : Nat), get1 (l.map fun p => (if Nat.beq p.1 old then new else p.1, f p.2)) i = if i = new then (get1 l old).map f else if i = old then none else (get1 l i).map f
  | [], _, i => by simp [get1]
  | (j, v) :: l, hn, i => by
    rw [get1_cons] at hn
    have hjn : j ≠ new := fun e => by subst e; simp at hn
    rw [if_neg (Ne.symm hjn)] at hn
    have ih := get1_rekey (f := f) hne l hn i
    simp only [List.map_cons, get1_cons]
    by_cases hj : j = old
    · subst hj
      simp only [Nat.beq_refl, if_true]
      by_cases h : i = new
      · rw [if_pos h, if_pos h]; rfl
      · rw [if_neg h, if_neg h, ih, if_neg h]
        by_cases h2 : i = j
        · rw [if_pos h2, if_pos h2]
        · rw [if_neg h2, if_neg h2, if_neg h2]
    · simp only [nbeq_ne hj, Bool.false_eq_true, if_false]
      rw [ih]
      by_cases h : i = j
      · subst h
        rw [if_pos rfl, if_neg hjn, if_neg hj, if_pos rfl]; rfl
      · rw [if_neg h, if_neg h, if_neg (Ne.symm hj)]

theorem letGo_sound {s s' : St} {id : Nat} (h : letGo s id = some s') (hs : StR C n s.vs.t m a) (hh : m.h = s.vs.h) : ∃ m', StR C n s'.vs.t m' a ∧ m'.h = s'.vs.h ∧ m'.w = m.w := by
  unfold letGo at h
  split at h
  · obtain rfl := Option.some.inj h
    exact ⟨m, hs, hh, rfl⟩
  · rename_i k i xs hid
    obtain rfl := Option.some.inj h
    have hv : ∀ j, get1 ((s.h.filter fun p => !Nat.beq p.1 id).map fun p => (p.1, renEnt (goF id) p.2)) j = if j = id then none else (m.h j).map (renEnt (goF id)) := fun j => by
      rw [get1_map, get1_filter, hh]
      by_cases hj : j = id
      · rw [if_pos hj, if_pos hj]; rfl
      · rw [if_neg hj, if_neg hj]; rfl
    have hfn : ∀ j, j ≠ id → (goF id) j = some j := fun j hj => by simp [goF, nbeq_ne hj]
    have hfi : (goF id) id = none := by simp [goF]
    have r : Ren (goF id) m (get1 ((s.h.filter fun p => !Nat.beq p.1 id).map fun p => (p.1, renEnt (goF id) p.2))) m.pl := by
      refine ⟨fun i e j he hj => ?_, fun j e' he' => ?_, fun i e he h1 h2 => ?_⟩
      · by_cases hi : i = id
        · subst hi; rw [hfi] at hj; cases hj
        · rw [hfn i hi] at hj
          obtain rfl := Option.some.inj hj
          exact ⟨by rw [hv, if_neg hi, he]; rfl, rfl⟩
      · rw [hv] at he'
        by_cases hj : j = id
        · rw [if_pos hj] at he'; cases he'
        · rw [if_neg hj] at he'
          cases hm : m.h j with
          | none => rw [hm] at he'; cases he'
          | some e =>
            rw [hm] at he'
            exact ⟨j, e, hfn j hj, hm, (Option.some.inj he').symm⟩
      · by_cases hi : i = id
        · subst hi
          rw [hh] at he
          rw [show s.vs.h i = _ from hid] at he
          exact absurd (Option.some.inj he).symm (h2 _ _)
        · exact hfn i hi
    have ht' : ∀ i v, get1 (s.t.map fun p : Nat × AV => (p.1, renAV (goF id) p.2)) i = some v → ∃ u, s.vs.t i = some u ∧ v = renAV (goF id) u := fun i v hv => by
      rw [get1_map] at hv
      cases ht : get1 s.t i with
      | none => rw [ht] at hv; cases hv
      | some u =>
        rw [ht] at hv
        exact ⟨u, ht, (Option.some.inj hv).symm⟩
    exact ⟨_, r.strR hs ht', rfl, rfl⟩
  · rename_i k xs hid
    obtain rfl := Option.some.inj h
    have hv : ∀ j, get1 ((s.h.filter fun p => !Nat.beq p.1 id).map fun p => (p.1, renEnt (goF id) p.2)) j = if j = id then none else (m.h j).map (renEnt (goF id)) := fun j => by
      rw [get1_map, get1_filter, hh]
      by_cases hj : j = id
      · rw [if_pos hj, if_pos hj]; rfl
      · rw [if_neg hj, if_neg hj]; rfl
    have hfn : ∀ j, j ≠ id → (goF id) j = some j := fun j hj => by simp [goF, nbeq_ne hj]
    have hfi : (goF id) id = none := by simp [goF]
    have r : Ren (goF id) m (get1 ((s.h.filter fun p => !Nat.beq p.1 id).map fun p => (p.1, renEnt (goF id) p.2))) m.pl := by
      refine ⟨fun i e j he hj => ?_, fun j e' he' => ?_, fun i e he h1 h2 => ?_⟩
      · by_cases hi : i = id
        · subst hi; rw [hfi] at hj; cases hj
        · rw [hfn i hi] at hj
          obtain rfl := Option.some.inj hj
          exact ⟨by rw [hv, if_neg hi, he]; rfl, rfl⟩
      · rw [hv] at he'
        by_cases hj : j = id
        · rw [if_pos hj] at he'; cases he'
        · rw [if_neg hj] at he'
          cases hm : m.h j with
          | none => rw [hm] at he'; cases he'
          | some e =>
            rw [hm] at he'
            exact ⟨j, e, hfn j hj, hm, (Option.some.inj he').symm⟩
      · by_cases hi : i = id
        · subst hi
          rw [hh] at he
          rw [show s.vs.h i = _ from hid] at he
          exact absurd (Option.some.inj he).symm (h1 _ _)
        · exact hfn i hi
    have ht' : ∀ i v, get1 (s.t.map fun p : Nat × AV => (p.1, renAV (goF id) p.2)) i = some v → ∃ u, s.vs.t i = some u ∧ v = renAV (goF id) u := fun i v hv => by
      rw [get1_map] at hv
      cases ht : get1 s.t i with
      | none => rw [ht] at hv; cases hv
      | some u =>
        rw [ht] at hv
        exact ⟨u, ht, (Option.some.inj hv).symm⟩
    exact ⟨_, r.strR hs ht', rfl, rfl⟩
  · cases h

theorem nameAs_sound {s s' : St} {old new : Nat} (h : nameAs s old new = some s') (hs : StR C n s.vs.t m a) (hh : m.h = s.vs.h) : ∃ m', StR C n s'.vs.t m' a ∧ m'.h = s'.vs.h ∧ m'.w = m.w := by
  unfold nameAs at h
  split at h
  · rename_i k xs ho hn
    obtain rfl := Option.some.inj h
    have hne : old ≠ new := fun e => by subst e; rw [hn] at ho; cases ho
    have hv : ∀ j, get1 (s.h.map fun p => (if Nat.beq p.1 old then new else p.1, renEnt (asF old new) p.2)) j =
        if j = new then (m.h old).map (renEnt (asF old new)) else if j = old then none else (m.h j).map (renEnt (asF old new)) := fun j => by
      rw [get1_rekey hne _ hn, hh]; rfl
    have hfn : ∀ j, j ≠ old → (asF old new) j = some j := fun j hj => by simp [asF, nbeq_ne hj]
    have hfi : (asF old new) old = some new := by simp [asF]
    have hmo : m.h old = some (.vec k xs) := by rw [hh]; exact ho
    have hmn : m.h new = none := by rw [hh]; exact hn
    have r : Ren (asF old new) m (get1 (s.h.map fun p => (if Nat.beq p.1 old then new else p.1, renEnt (asF old new) p.2)))
        (fun j => if j = new then m.pl old else m.pl j) := by
      refine ⟨fun i e j he hj => ?_, fun j e' he' => ?_, fun i e he h1 h2 => ?_⟩
      · by_cases hi : i = old
        · subst hi
          rw [hfi] at hj
          obtain rfl := Option.some.inj hj
          exact ⟨by rw [hv, if_pos rfl, he]; rfl, by rw [if_pos rfl]⟩
        · rw [hfn i hi] at hj
          obtain rfl := Option.some.inj hj
          have hin : i ≠ new := fun e => by subst e; rw [hmn] at he; cases he
          exact ⟨by rw [hv, if_neg hin, if_neg hi, he]; rfl, by rw [if_neg hin]⟩
      · rw [hv] at he'
        by_cases hj : j = new
        · rw [if_pos hj, hmo] at he'
          subst hj
          exact ⟨old, _, hfi, hmo, (Option.some.inj he').symm⟩
        · rw [if_neg hj] at he'
          by_cases hjo : j = old
          · rw [if_pos hjo] at he'; cases he'
          · rw [if_neg hjo] at he'
            cases hm : m.h j with
            | none => rw [hm] at he'; cases he'
            | some e =>
              rw [hm] at he'
              exact ⟨j, e, hfn j hjo, hm, (Option.some.inj he').symm⟩
      · by_cases hi : i = old
        · subst hi
          rw [hmo] at he
          exact absurd (Option.some.inj he).symm (h1 _ _)
        · exact hfn i hi
    have ht' : ∀ i v, get1 (s.t.map fun p : Nat × AV => (p.1, renAV (asF old new) p.2)) i = some v → ∃ u, s.vs.t i = some u ∧ v = renAV (asF old new) u := fun i v hv => by
      rw [get1_map] at hv
      cases ht : get1 s.t i with
      | none => rw [ht] at hv; cases hv
      | some u =>
        rw [ht] at hv
        exact ⟨u, ht, (Option.some.inj hv).symm⟩
    exact ⟨_, r.strR hs ht', rfl, rfl⟩
  · cases h

/-- The same activation, memory told of anew. -/
theorem StR.move {t t' : Nat → Option AV} (hs : StR C n t m a) {m' : Mem} (hm : MemR C m') (hx : Ext C m m') (ht : ∀ i v, t' i = some v → t i = some v ∨ AVR C m' v (a.tmps.getD i undef))
    (hb : ∀ id cells, m'.h id = some (.box cells) → ∃ l, m.h id = some (.box l)) : StR C n t' m' a := by
  refine ⟨hm, hs.size, hs.defers, fun i v hv => (ht i v hv).elim (fun h => hx.AVR (hs.slots i v h)) id, fun id g cells hlt hf h => ?_⟩
  obtain ⟨l, hl⟩ := hb id cells h
  obtain ⟨e', he', hx'⟩ := hx.ent id _ hl
  rw [h] at he'
  obtain rfl := Option.some.inj he'
  rw [show (m'.pl id).g = (m.pl id).g from hx']
  exact hs.fixd id g l hlt hf hl

end
end Go.Proofs.Ytmlolnaannoifaa

/- Names of blocks changed at a loop's head: the whole. -/
namespace Go.Proofs.Ytmlolnaannoifaa

section
variable {C : Ctx} {m : Mem} {n : Nat} {a : Act}

theorem put_nil (hm : MemR C m) {id : Nat} (hid : m.h id = none) (e : Kd) (A : Option Addr) : ∃ pl', MemR C ⟨m.U, pl', updE m.h [(id, .vec e [])], m.w⟩ ∧ Ext C m ⟨m.U, pl', updE m.h [(id, .vec e [])], m.w⟩ ∧
    AVR1 C ⟨m.U, pl', updE m.h [(id, .vec e [])], m.w⟩ (.osl e id 0) (.slice A 0 0) := by
  obtain ⟨h1, h2⟩ := memR_put hm (c := id) (p := ⟨0, A, 0⟩) (e := .vec e []) (fun e' he' => by rw [hid] at he'; cases he') (.inl ⟨rfl, rfl⟩) (fun g hg => by simp [blkOf] at hg)
  exact ⟨_, h1, h2, A, 0, rfl, e, [], .inl ⟨by simp [updE, get1], Nat.le_refl _, fun _ => by simp [updP]⟩⟩

theorem upd_box {h : View} {id : Nat} {e : Kd} {xs : List e.T} {i : Nat} {cells : List AV1} (hb : updE h [(id, .vec e xs)] i = some (.box cells)) : h i = some (.box cells) := by
  by_cases hi : i = id
  · subst hi; simp [updE, get1] at hb
  · rw [updE_out (by simpa using hi)] at hb; exact hb

theorem set1_updE (h : Ents) (i : Nat) (e : Ent) : get1 (set1 h i e) = updE (get1 h) [(i, e)] := by
  funext j
  rw [get1_set1]
  unfold updE
  rw [get1_cons]
  by_cases hj : j = i
  · rw [if_pos hj, if_pos hj]
  · rw [if_neg hj, if_neg hj]; rfl

theorem promote1_sound {s s' : St} {p : Pro} (h : promote1 s p = some s') (hs : StR C n s.vs.t m a) (hh : m.h = s.vs.h) : ∃ m', StR C n s'.vs.t m' a ∧ m'.h = s'.vs.h ∧ m'.w = m.w := by
  cases p with
  | slot i e id =>
    simp only [promote1] at h
    split at h
    · rename_i hti
      obtain ⟨_, A, hv⟩ := hs.slots i _ hti
      split at h
      · rename_i s1 hl
        obtain ⟨m1, q1, q2, q3⟩ := letGo_sound hl hs hh
        split at h
        · rename_i hn
          obtain rfl := Option.some.inj h
          have hid : m1.h id = none := by rw [q2]; exact Option.isNone_iff_eq_none.1 hn
          obtain ⟨pl', k1, k2, k3⟩ := put_nil q1.mem hid e A
          refine ⟨_, q1.move k1 k2 (t' := (⟨set1 s1.t i (.one (.osl e id 0)), set1 s1.h id (.vec e [])⟩ : St).vs.t) (fun j v hjv => ?_) (fun i cells hb => ⟨cells, upd_box hb⟩), ?_, q3⟩
          · change get1 (set1 s1.t i (.one (.osl e id 0))) j = some v at hjv
            rw [get1_set1] at hjv
            by_cases hj : j = i
            · rw [if_pos hj] at hjv
              obtain rfl := Option.some.inj hjv
              subst hj
              right
              rw [hv]
              exact ⟨rfl, k3⟩
            · rw [if_neg hj] at hjv
              exact .inl hjv
          · show updE m1.h _ = get1 (set1 s1.h id _)
            rw [set1_updE, q2]; rfl
        · cases h
      · cases h
    · split at h
      · obtain rfl := Option.some.inj h
        exact ⟨m, hs, hh, rfl⟩
      · split at h
        · rename_i s1 hl
          obtain ⟨m1, q1, q2, q3⟩ := letGo_sound hl hs hh
          obtain ⟨m2, r1, r2, r3⟩ := nameAs_sound h q1 q2
          exact ⟨m2, r1, r2, r3.trans q3⟩
        · cases h
    · cases h
  | cell b j e id =>
    simp only [promote1] at h
    split at h
    · split at h
      · split at h
        · rename_i s1 hl
          obtain ⟨m1, q1, q2, q3⟩ := letGo_sound hl hs hh
          split at h
          · rename_i cells hb1 hn
            split at h
            · rename_i hcj
              obtain rfl := Option.some.inj h
              have hid : m1.h id = none := by rw [q2]; exact hn
              have hbm : m1.h b = some (.box cells) := by rw [q2]; exact hb1
              obtain ⟨cs, ty, hh1, hc, hu⟩ := box_at q1.mem hbm
              obtain ⟨v, hv, hv1, A, rfl⟩ := hc.get hcj
              obtain ⟨pl', k1, k2, k3⟩ := put_nil q1.mem hid e A
              have hbid : b ≠ id := fun e => by subst e; rw [hid] at hbm; cases hbm
              have hb2 : updE m1.h [(id, .vec e [])] b = some (.box cells) := by rw [updE_out (by simpa using hbid)]; exact hbm
              obtain ⟨cs', ty', hh2, hc2, hu2⟩ := box_at k1 hb2
              have hpb : (pl' b).g = (m1.pl b).g := by
                obtain ⟨e', he', hx'⟩ := k2.ent b _ hbm
                rw [show (⟨m1.U, pl', updE m1.h [(id, .vec e [])], m1.w⟩ : Mem).h b = _ from hb2] at he'
                obtain rfl := Option.some.inj he'
                exact hx'
              have hcs : cs' = cs := by
                simp only [hpb] at hh2
                rw [hh1] at hh2
                injection hh2 with h; injection h with h
                exact h.symm
              subst hcs
              have hset : CLs C ⟨m1.U, pl', updE m1.h [(id, .vec e [])], m1.w⟩ (cells.set j (.osl e id 0)) cs'.toList := by
                have := CLs.set (m := ⟨m1.U, pl', updE m1.h [(id, .vec e [])], m1.w⟩) (v := .slice A 0 0) ⟨rfl, k3⟩ j hc2
                have he : cs'.toList.set j (.slice A 0 0) = cs'.toList := by
                  apply list_ext?
                  intro i
                  rw [List.getElem?_set]
                  split
                  · rename_i hij
                    subst hij
                    rw [hv]
                    split
                    · rfl
                    · rename_i hlt
                      rw [List.getElem?_eq_none (by omega)] at hv; cases hv
                  · rfl
                rw [he] at this
                exact this
              obtain ⟨r1, r2⟩ := memR_put k1 (c := b) (p := pl' b) (e := .box (cells.set j (.osl e id 0))) (fun e' he' => by
                  rw [show (⟨m1.U, pl', updE m1.h [(id, .vec e [])], m1.w⟩ : Mem).h b = _ from hb2] at he'
                  obtain rfl := Option.some.inj he'
                  rfl) ⟨cs', ty', hh2, hset, hu2⟩ (fun g hg => by
                  refine ⟨k1.where_ b _ g hb2 hg, fun id' e' hne he' hb' => ?_⟩
                  exact hne (k1.apart id' b e' _ g he' hb2 hb' hg))
              refine ⟨_, (q1.move (t' := (⟨s1.t, set1 (set1 s1.h id (.vec e [])) b (.box (cells.set j (.osl e id 0)))⟩ : St).vs.t) r1 (k2.trans r2) (fun j v hjv => .inl hjv) (fun i l hb => ?_)), ?_, q3⟩
              · by_cases hib : i = b
                · subst hib; exact ⟨_, hbm⟩
                · change updE (updE m1.h [(id, .vec e [])]) [(b, _)] i = _ at hb
                  rw [updE_out (by simpa using hib)] at hb
                  exact ⟨_, upd_box hb⟩
              · show updE (updE m1.h _) _ = get1 (set1 (set1 s1.h id _) b _)
                rw [set1_updE, set1_updE, q2]; rfl
            · cases h
          · cases h
        · cases h
      · split at h
        · obtain rfl := Option.some.inj h
          exact ⟨m, hs, hh, rfl⟩
        · split at h
          · rename_i s1 hl
            obtain ⟨m1, q1, q2, q3⟩ := letGo_sound hl hs hh
            obtain ⟨m2, r1, r2, r3⟩ := nameAs_sound h q1 q2
            exact ⟨m2, r1, r2, r3.trans q3⟩
          · cases h
      · cases h
    · cases h

theorem promote_sound : ∀ {ps : List Pro} {s s' : St} {m : Mem}, promote s ps = some s' → StR C n s.vs.t m a → m.h = s.vs.h → ∃ m', StR C n s'.vs.t m' a ∧ m'.h = s'.vs.h ∧ m'.w = m.w
  | [], s, s', m, h, hs, hh => by
    obtain rfl := Option.some.inj h
    exact ⟨m, hs, hh, rfl⟩
  | p :: ps, s, s', m, h, hs, hh => by
    simp only [promote] at h
    split at h
    · rename_i s1 h1
      obtain ⟨m1, q1, q2, q3⟩ := promote1_sound h1 hs hh
      obtain ⟨m2, r1, r2, r3⟩ := promote_sound h q1 q2
      exact ⟨m2, r1, r2, r3.trans q3⟩
    · cases h

theorem into_sound {A : Ann} {s : St} {x : A.K} {q : Prop} (h : into A s x q) (hs : StR C n s.vs.t m a) (hh : m.h = s.vs.h) : q ∧ ∃ m', StR C n (A.I x).vs.t m' a ∧ m'.h = (A.I x).vs.h ∧ m'.w = m.w := by
  unfold into at h
  split at h
  · rename_i s1 h1
    obtain ⟨m1, q1, q2, q3⟩ := promote_sound h1 hs hh
    obtain ⟨r1, r2⟩ := le_sound h q1 q2
    exact ⟨r1, _, r2, rfl, q3⟩
  · exact h.elim
end
end Go.Proofs.Ytmlolnaannoifaa

/- Code: what is to be shown of told states is enough for the model's runs. -/
namespace Go.Proofs.Ytmlolnaannoifaa

theorem exists_min {P : Nat → Prop} : ∀ {k : Nat}, P k → ∃ k, P k ∧ ∀ j, P j → k ≤ j := by
  intro k
  induction k using Nat.strongRecOn with
  | _ k ih =>
    intro hk
    by_cases h : ∃ j, j < k ∧ P j
    · obtain ⟨j, hj, hp⟩ := h
      exact ih j hj hp
    · exact ⟨k, hk, fun j hj => Nat.le_of_not_lt fun hlt => h ⟨j, hlt, hj⟩⟩

/-- A loop, by what holds at its head of some reading. -/
theorem wp_loop_any {P : Program} {c : Code} {Q : Exit → Act → World → Prop} {a : Act} {w : World} {X : Type} (R : X → Act → World → Prop) (μ : X → Nat) {x0 : X} (h0 : R x0 a w)
    (round : ∀ x a w, R x a w → c.wp P (Exit.then (fun a' w' => ∃ x', R x' a' w' ∧ μ x' < μ x) Q) a w) : (Code.loop c).wp P Q a w := by
  classical
  have hex : ∀ a w, (∃ x, R x a w) → ∃ k, (∃ x, R x a w ∧ μ x = k) ∧ ∀ j, (∃ x, R x a w ∧ μ x = j) → k ≤ j := fun a w ⟨x, hx⟩ => exists_min (P := fun k => ∃ x, R x a w ∧ μ x = k) ⟨x, hx, rfl⟩
  refine wp_loop (fun a w => ∃ x, R x a w) (fun a w => if h : ∃ x, R x a w then Classical.choose (hex a w h) else 0) ⟨x0, h0⟩ fun a w hI => ?_
  obtain ⟨⟨x, hx, hμ⟩, hmin⟩ := Classical.choose_spec (hex a w hI)
  refine Code.wp_mono ?_ (round x a w hx)
  intro e a' w' q
  cases e with
  | normal =>
    obtain ⟨x', hx', hlt⟩ := q
    refine ⟨⟨x', hx'⟩, ?_⟩
    have hI' : ∃ x, R x a' w' := ⟨x', hx'⟩
    rw [dif_pos hI', dif_pos hI]
    have := (Classical.choose_spec (hex a' w' hI')).2 (μ x') ⟨x', hx', rfl⟩
    omega
  | _ => exact q

section
variable {C : Ctx} {E : Env} {T : Types} {n : Nat}

theorem evw_sound (hT : TyOK C.P T) (hE : EnvOK C.P E) (hmix : C.P.follows .mixedOrders = true) {ann : Nat → Option Ann} : ∀ (c : Code) {K : Exit → St → Prop} {s : St} {m : Mem} {a : Act} {Q : Exit → Act → World → Prop},
    evw T E n ann c K s → StR C n s.vs.t m a → m.h = s.vs.h → (∀ e s' a' m', K e s' → StR C n s'.vs.t m' a' → m'.h = s'.vs.h → Q e a' m'.w) → c.wp C.P Q a m.w
  | .skip, K, s, m, a, Q, h, hs, hh, hQ => wp_skip (hQ .normal s a m h hs hh)
  | .label _, K, s, m, a, Q, h, hs, hh, hQ => wp_label (hQ .normal s a m h hs hh)
  | .region _ ops draw, K, s, m, a, Q, h, hs, hh, hQ => evRegion_sound hT hE hmix h hs hh (hQ .normal)
  | .seq x y, K, s, m, a, Q, h, hs, hh, hQ => by
    refine wp_seq (evw_sound hT hE hmix x h hs hh fun e s' a' m' hk hs' hh' => ?_)
    cases e with
    | normal => exact evw_sound hT hE hmix y hk hs' hh' hQ
    | _ => exact hQ _ s' a' m' hk hs' hh'
  | .cond c x y, K, s, m, a, Q, h, hs, hh, hQ => by
    unfold evw at h
    split at h
    · rename_i b hc
      have hv : a.eval c = .bool b := avr_bool_inv (by rw [← hc]; exact opAV_sound hs c)
      split at h
      · rename_i hb
        subst hb
        exact wp_cond_true hv (evw_sound hT hE hmix x h hs hh hQ)
      · rename_i hb
        have : b = false := by cases b <;> simp_all
        subst this
        exact wp_cond_false hv (evw_sound hT hE hmix y h hs hh hQ)
    · rename_i p hc
      obtain ⟨_, b, hv, hb⟩ : AVR C m (.one (.pb p)) (a.eval c) := by rw [← hc]; exact opAV_sound hs c
      cases b with
      | true => exact wp_cond_true hv (evw_sound hT hE hmix x (h.1 (hb rfl)) hs hh hQ)
      | false => exact wp_cond_false hv (evw_sound hT hE hmix y h.2 hs hh hQ)
    · exact h.elim
  | .block id c, K, s, m, a, Q, h, hs, hh, hQ => by
    refine wp_block (evw_sound hT hE hmix c h hs hh fun e s' a' m' hk hs' hh' => ?_)
    cases e with
    | exit id' =>
      simp only [Exit.inBlock]
      by_cases hid : id' = id
      · rw [if_pos hid]
        subst hid
        simp only [Nat.beq_refl] at hk
        exact hQ .normal s' a' m' hk hs' hh'
      · rw [if_neg hid]
        simp only [nbeq_ne hid] at hk
        exact hQ _ s' a' m' hk hs' hh'
    | _ => exact hQ _ s' a' m' hk hs' hh'
  | .loop c, K, s, m, a, Q, h, hs, hh, hQ => by
    unfold evw at h
    split at h
    · rename_i A hA
      obtain ⟨x0, h⟩ := h
      obtain ⟨⟨Inv, μ, h0, hround⟩, m0, q1, q2, q3⟩ := into_sound h hs hh
      rw [← q3]
      refine wp_loop_any (X := A.K) (fun x a' w' => Inv x ∧ ∃ m', StR C n (A.I x).vs.t m' a' ∧ m'.h = (A.I x).vs.h ∧ m'.w = w') μ ⟨h0, m0, q1, q2, rfl⟩ fun x a1 w1 ⟨hx, m1, r1, r2, r3⟩ => ?_
      subst r3
      refine evw_sound hT hE hmix c (hround x hx) r1 r2 fun e s' a' m' hk hs' hh' => ?_
      cases e with
      | normal =>
        obtain ⟨x', hk⟩ := hk
        obtain ⟨⟨h1, h2⟩, m2, t1, t2, t3⟩ := into_sound hk hs' hh'
        exact ⟨x', ⟨h1, m2, t1, t2, t3⟩, h2⟩
      | _ => exact hQ _ s' a' m' hk hs' hh'
    · exact h.elim
  | .exit id, K, s, m, a, Q, h, hs, hh, hQ => wp_exit (hQ (.exit id) s a m h hs hh)
  | .ret, K, s, m, a, Q, h, hs, hh, hQ => wp_ret (hQ .ret s a m h hs hh)
  | .scope _, K, s, m, a, Q, h, hs, hh, hQ => h.elim
  | .goto _, K, s, m, a, Q, h, hs, hh, hQ => h.elim
end
end Go.Proofs.Ytmlolnaannoifaa

/- A function, from its arguments to its results. -/
namespace Go.Proofs.Ytmlolnaannoifaa

theorem newCells_vec : ∀ {k : Kd} {x : k.T} {c : Nat}, ∀ p ∈ (newCells k x c).2.1, ∃ e xs, p.2 = .vec e xs
  | .unit, _, _, p, h => by simp [newCells] at h
  | .pair a b, x, c, p, h => by
    simp only [newCells, List.mem_append] at h
    exact h.elim (newCells_vec p) (newCells_vec p)
  | .own e, x, c, p, h => by
    simp only [newCells, List.mem_singleton] at h
    subst h; exact ⟨_, _, rfl⟩
  | .bool, _, _, p, h => by simp [newCells] at h
  | .int _, _, _, p, h => by simp [newCells] at h
  | .flt _, _, _, p, h => by simp [newCells] at h
  | .str, _, _, p, h => by simp [newCells] at h
  | .sl _, _, _, p, h => by simp [newCells] at h

section
variable {P : Program} {io : List Nat} {U : Addr → Prop} {w : World} {fix : Nat → Option Nat}

/-- What the start tells of its parameters. -/
def StartQ (C : Ctx) (ps : List PK) (x : PsT ps) (i : Nat) (vs : List Value) (m' : Mem) : Prop :=
  (∀ j v, get1 (initArgs ps x i).t j = some v → i ≤ j ∧ ∃ u, vs[j - i]? = some u ∧ AVR C m' v u) ∧
  ∀ p ∈ (initArgs ps x i).h, ∀ cells, p.2 = .box cells → ∃ j, p.1 = 16 * j ∧ i ≤ j ∧ vs[j - i]? = some (.pointer (some ⟨(m'.pl p.1).g, 0, none⟩))

def ArgQ (C : Ctx) (p : PK) (x : p.T) (i : Nat) (v : Value) (m' : Mem) : Prop :=
  AVR C m' (initArg p x i).1 v ∧ ∀ q ∈ (initArg p x i).2, ∀ cells, q.2 = .box cells → q.1 = 16 * i ∧ v = .pointer (some ⟨(m'.pl q.1).g, 0, none⟩)

theorem initArg_fits {p : PK} {x : p.T} {v : Value} {bs : List Nat} (i : Nat) (h : ArgR P io U w p x v bs) : ∃ places, Fits ⟨P, io, U, w, fix⟩ U w (initArg p x i).2 places bs (ArgQ ⟨P, io, U, w, fix⟩ p x i v) := by
  cases p with
  | val k =>
    obtain ⟨h1, h2⟩ := h
    obtain ⟨pl, f⟩ := newCells_fits (C := ⟨P, io, U, w, fix⟩) (16 * i) h2
    refine ⟨pl, f.perm (.refl _) fun m' hc => ⟨?_, fun q hq cells hb => ?_⟩⟩
    · show AVR _ m' (avOf (false, (newCells k x (16 * i)).1)) v
      match (newCells k x (16 * i)).1, hc with
      | [], hc => exact hc.elim
      | [a], hc => exact avr_of_one hc.1
      | _ :: _ :: _, hc => exact hc.2.elim
    · obtain ⟨e, xs, he⟩ := newCells_vec q hq
      rw [hb] at he; cases he
  | st k =>
    obtain ⟨cs, hv, h2⟩ := h
    obtain ⟨pl, f⟩ := newCells_fits (C := ⟨P, io, U, w, fix⟩) (16 * i) h2
    refine ⟨pl, f.perm (.refl _) fun m' hc => ⟨⟨cs, hv, hc⟩, fun q hq cells hb => ?_⟩⟩
    obtain ⟨e, xs, he⟩ := newCells_vec q hq
    rw [hb] at he; cases he
  | box k =>
    obtain ⟨g, bs', hv, ⟨cs, ty, hh, h2, hu⟩, rfl⟩ := h
    obtain ⟨pl, f⟩ := newCells_fits (C := ⟨P, io, U, w, fix⟩) (16 * i + 1) h2
    refine ⟨(16 * i, ⟨g, none, 0⟩) :: pl, by simpa [initArg] using f.keys, fun m' hU hw he hp => ?_⟩
    obtain ⟨a1, a2, a3⟩ := f.fits m' hU hw (fun q hq => he q (by simp [initArg, hq])) (fun q hq => hp q (by simp [hq]))
    have hpl : m'.pl (16 * i) = ⟨g, none, 0⟩ := hp (16 * i, ⟨g, none, 0⟩) (by simp)
    have hc : m'.h (16 * i) = some (.box (newCells k x (16 * i + 1)).1) := he (16 * i, .box (newCells k x (16 * i + 1)).1) (by simp [initArg])
    refine ⟨fun q hq => ?_, ?_, ?_, fun q hq cells hb => ?_⟩
    · simp only [initArg, List.mem_cons] at hq
      rcases hq with rfl | hq
      · refine ⟨cs, ty, ?_, a3, ?_⟩
        · show m'.w.heap[(m'.pl (16 * i)).g]? = _
          rw [hw, hpl]; exact hh
        · intro a ha
          rw [hU]
          exact hu a (by rw [hpl] at ha; exact ha)
      · exact a1 q hq
    · simp only [initArg, List.flatMap_cons, blkAt, blkOf, hpl]
      exact .cons _ a2
    · refine ⟨by rw [hv]; rfl, ?_, .inl ⟨_, hc⟩⟩
      rw [hpl]; exact hv
    · simp only [initArg, List.mem_cons] at hq
      rcases hq with rfl | hq
      · exact ⟨rfl, by rw [hpl]; exact hv⟩
      · obtain ⟨e, xs, he⟩ := newCells_vec q hq
        rw [hb] at he; cases he
  | ro k =>
    obtain ⟨rfl, a, l, hv, hcr, hj⟩ := h
    refine ⟨[], Fits.nil fun m' hU hw => ⟨⟨by rw [hv]; rfl, a, l, hv, by rw [hU, hw]; exact hcr, fun j hjl => ⟨?_, by rw [hw]; exact (hj j hjl).2⟩⟩, fun q hq => by simp [initArg] at hq⟩⟩
    rcases (hj j hjl).1 with h1 | h1
    · exact .inl (by rw [hU]; exact h1)
    · exact .inr (by rw [Addr.add_block]; exact h1)
  | fnp a r =>
    obtain ⟨rfl, fn, cap, hv, hr⟩ := h
    exact ⟨[], Fits.nil fun m' hU hw => ⟨⟨by rw [hv]; rfl, fn, cap, hv, hr⟩, fun q hq => by simp [initArg] at hq⟩⟩

theorem initArgs_fits : ∀ {ps : List PK} {x : PsT ps} {vs : List Value} {bs : List Nat} (i : Nat), ArgsR P io U w ps x vs bs →
    ∃ places, Fits ⟨P, io, U, w, fix⟩ U w (initArgs ps x i).h places bs (StartQ ⟨P, io, U, w, fix⟩ ps x i vs)
  | [], x, vs, bs, i, h => by
    obtain ⟨rfl, rfl⟩ := h
    exact ⟨[], Fits.nil fun m' _ _ => ⟨fun j v hv => by simp [initArgs, get1] at hv, fun p hp => by simp [initArgs] at hp⟩⟩
  | p :: ps, x, vs, bs, i, h => by
    obtain ⟨v, r, b1, b2, rfl, rfl, h1, h2⟩ := h
    obtain ⟨p1, f1⟩ := initArg_fits (fix := fix) i h1
    obtain ⟨p2, f2⟩ := initArgs_fits (i + 1) h2
    refine ⟨p1 ++ p2, f1.app f2 fun m' _ _ q1 q2 => ⟨fun j u hu => ?_, fun q hq cells hb => ?_⟩⟩
    · simp only [initArgs, get1_cons] at hu
      by_cases hj : j = i
      · rw [if_pos hj] at hu
        obtain rfl := Option.some.inj hu
        subst hj
        exact ⟨Nat.le_refl _, v, by simp, q1.1⟩
      · rw [if_neg hj] at hu
        obtain ⟨hle, z, hz, hz2⟩ := q2.1 j u hu
        refine ⟨by omega, z, ?_, hz2⟩
        rw [show j - i = (j - (i + 1)) + 1 by omega, List.getElem?_cons_succ]
        exact hz
    · simp only [initArgs, List.mem_append] at hq
      rcases hq with hq | hq
      · obtain ⟨k1, k2⟩ := q1.2 q hq cells hb
        exact ⟨i, k1, Nat.le_refl _, by simp [k2]⟩
      · obtain ⟨j, k1, k2, k3⟩ := q2.2 q hq cells hb
        refine ⟨j, k1, by omega, ?_⟩
        rw [show j - i = (j - (i + 1)) + 1 by omega, List.getElem?_cons_succ]
        exact k3

theorem argsR_length : ∀ {ps : List PK} {x : PsT ps} {vs : List Value} {bs : List Nat}, ArgsR P io U w ps x vs bs → vs.length = ps.length
  | [], _, _, _, h => by rw [h.1]; rfl
  | p :: ps, x, vs, bs, h => by
    obtain ⟨v, r, b1, b2, rfl, rfl, h1, h2⟩ := h
    simp [argsR_length h2]

/-- Which block a parameter's box must keep. -/
def fixOf (vs : List Value) (id : Nat) : Option Nat :=
  if id % 16 = 0 then match vs[id / 16]? with
    | some (.pointer (some ⟨g, 0, none⟩)) => some g
    | _ => none
  else none

/-- The state at the start. -/
theorem start {ps : List PK} {x : PsT ps} {vs : List Value} {n : Nat} (hb : ∀ a, U a → a.spot = none ∧ a.block < w.heap.size) (h : ArgsR P io U w ps x vs io) (hio : io.Nodup)
    (hk : ((initArgs ps x 0).h.map (·.1)).Nodup) (hn : ps.length ≤ n) :
    ∃ m, StR ⟨P, io, U, w, fixOf vs⟩ n (initArgs ps x 0).vs.t m { tmps := vs.toArray ++ Array.replicate (n - vs.toArray.size) undef, defers := [] } ∧ m.h = (initArgs ps x 0).vs.h ∧ m.w = w ∧ m.U = U := by
  obtain ⟨places, f⟩ := initArgs_fits (fix := fixOf vs) 0 h
  have hkn : (places.map (·.1)).Nodup := f.keys.nodup_iff.2 hk
  obtain ⟨m, hm⟩ : ∃ m : Mem, m = ⟨U, fun id => (get1 places id).getD default, get1 (initArgs ps x 0).h, w⟩ := ⟨_, rfl⟩
  obtain ⟨q1, q2, q3, q4⟩ := f.fits m (by rw [hm]) (by rw [hm]) (fun p hp => by rw [hm]; exact get1_mem hk p hp) (fun p hp => by rw [hm]; simp only [get1_mem hkn p hp, Option.getD_some])
  have hmem : ∀ id e, m.h id = some e → (id, e) ∈ (initArgs ps x 0).h := fun id e he => by rw [hm] at he; exact get1_some he
  have hlen := argsR_length h
  have hin : ∀ id e g, m.h id = some e → blkOf (m.pl id) e = some g → g ∈ io := fun id e g he hg => q2.mem_iff.1 (List.mem_flatMap.2 ⟨(id, e), hmem id e he, by simp [blkAt, hg]⟩)
  refine ⟨m, ⟨⟨?_, fun id e he => q1 (id, e) (hmem id e he), fun i j e e' g h1 h2 b1 b2 => ?_, fun id e g he hg => .inr (hin id e g he hg)⟩, ?_, rfl, fun i v hv => ?_, fun id g cells _ hf hbx => ?_⟩, by rw [hm]; rfl, by rw [hm], by rw [hm]⟩
  · rw [hm]; exact Post.refl hb
  · have := nodup_flatMap_eq (q2.nodup_iff.2 hio) (hmem i e h1) (hmem j e' h2) (x := g) (by simp [blkAt, b1]) (by simp [blkAt, b2])
    exact congrArg Prod.fst this
  · simp [hlen]; omega
  · obtain ⟨_, u, hu, hav⟩ := q3 i v hv
    rw [Nat.sub_zero] at hu
    have hi : i < vs.length := by
      rcases Nat.lt_or_ge i vs.length with h' | h'
      · exact h'
      · rw [List.getElem?_eq_none h'] at hu; cases hu
    have : (vs.toArray ++ Array.replicate (n - vs.toArray.size) undef).getD i undef = u := by
      rw [Array.getD_eq_getD_getElem?, Array.getElem?_append_left (by simpa using hi)]
      simp [hu]
    show AVR _ m v _
    rw [this]; exact hav
  · obtain ⟨j, hj, _, hv⟩ := q4 (id, .box cells) (hmem id _ hbx) cells rfl
    simp only at hj hv
    subst hj
    change fixOf vs (16 * j) = some g at hf
    unfold fixOf at hf
    rw [if_pos (by omega), show 16 * j / 16 = j by omega] at hf
    rw [Nat.sub_zero] at hv
    rw [hv] at hf
    simpa using hf

/- the end -/
theorem loadAV_ptr {C : Ctx} {m : Mem} {ti : TyI} {a : AV1} {g : View} {r : List Prop × AV} {v : Value} (h : loadAV ti a g = some r) (ha : AVR1 C m a v) : ∃ ad, v = .pointer (some ad) := by
  unfold loadAV at h
  split at h
  · exact ⟨_, ha.1⟩
  · obtain ⟨_, hv, _⟩ := ha; exact ⟨_, hv⟩
  · obtain ⟨ad, _, hv, _⟩ := ha; exact ⟨ad, hv⟩
  · cases h

theorem viewOK_refl (h : View) : ViewOK h h := fun _ _ h => h

theorem retAVs_sound {C : Ctx} {n : Nat} {T : Types} {m : Mem} {a : Act} {s : St} (hT : TyOK C.P T) (hs : StR C n s.vs.t m a) (hh : m.h = s.vs.h) : ∀ {rs : List ResultVar} {p : List Prop} {vs : List AV}, retAVs T s rs = some (p, vs) → (∀ q ∈ p, q) →
    ∃ rvs, (rs.mapM (fun (r : ResultVar) => (match r with | .tmp t => pure (a.tmps.getD t undef) | .cell b t => do loadVar t (← asAddr (a.tmps.getD b undef)) : Sem Value))).run C.P m.w = .ok rvs m.w ∧ VRs C m vs rvs
  | [], p, vs, h, hp => by
    simp only [retAVs, Option.some.injEq, Prod.mk.injEq] at h
    obtain ⟨rfl, rfl⟩ := h
    exact ⟨[], rfl, trivial⟩
  | r :: rs, p, vs, h, hp => by
    simp only [retAVs] at h
    split at h
    · rename_i p1 v1 q1 vs1 h1 h2
      simp only [Option.some.injEq, Prod.mk.injEq] at h
      obtain ⟨rfl, rfl⟩ := h
      obtain ⟨rvs, k1, k2⟩ := retAVs_sound hT hs hh h2 (fun q hq => hp q (by simp [hq]))
      have key : ∃ u, (match r with | .tmp t => pure (a.tmps.getD t undef) | .cell b t => do loadVar t (← asAddr (a.tmps.getD b undef)) : Sem Value).run C.P m.w = .ok u m.w ∧ AVR C m v1 u := by
        cases r with
        | tmp t =>
          simp only [retAV, Option.some.injEq, Prod.mk.injEq] at h1
          obtain ⟨_, rfl⟩ := h1
          exact ⟨_, rfl, opAV_sound hs (.tmp t)⟩
        | cell b t =>
          simp only [retAV] at h1
          split at h1
          · rename_i x ti hx hti
            have hav := hs.slots b _ hx
            have hne : x ≠ .any := fun e => by subst e; simp [loadAV] at h1
            have h3 := (avr_one hav hne).2
            obtain ⟨ad, hv⟩ := loadAV_ptr h1 h3
            obtain ⟨u, h4, h5⟩ := loadAV_sound hs.mem (g := get1 s.h) (by rw [hh]; exact viewOK_refl _) (hT t ti hti) h1 (fun q hq => hp q (by simp [hq])) h3
            refine ⟨u, ?_, h5⟩
            rw [hv] at h4
            show Sem.run C.P (do let x ← asAddr (a.tmps.getD b undef); loadVar t x) m.w = _
            rw [hv]
            simpa [Instr.loadAt, Instr.sureAddr, asAddr] using h4
          · cases h1
      obtain ⟨u, h3, h4⟩ := key
      refine ⟨u :: rvs, ?_, h4, k2⟩
      rw [List.mapM_cons, Sem.run_bind, h3, Result.andThen_ok, Sem.run_bind, k1]
      rfl
    · cases h

theorem map_some' {α β γ : Type} {o : Option (α × β)} {f : γ} {p : α} {x : β} {i : γ} (h : (o.map fun r => (r.1, r.2, f)) = some (p, x, i)) : o = some (p, x) ∧ f = i := map3_some h

theorem readRes_sound {C : Ctx} {m : Mem} (hm : MemR C m) {g : View} (hg : ViewOK g m.h) {k : RK} {v : AV} {u : Value} {q : List Prop} {r : k.T} {is : List Nat} (h : readRes k v g = some (q, r, is)) (hq : ∀ p ∈ q, p) (hv : AVR C m v u) :
    ResR1 m.U m.w k r u (is.flatMap (blkL m)) := by
  cases k with
  | one k =>
    simp only [readRes] at h
    unfold oneRes at h
    split at h
    · rename_i a
      split at h
      · rename_i ht
        obtain ⟨h1, rfl⟩ := map_some' h
        have hne : a ≠ .any := fun e => by subst e; simp [AV1.told] at ht
        obtain ⟨k1, k2⟩ := avr_one hv hne
        exact ⟨k1, ofCellsAll_TR hm hg h1 hq (vs := [u]) ⟨⟨k1, k2⟩, trivial⟩⟩
      · cases h
    · cases h
  | st k =>
    simp only [readRes] at h
    unfold stRes at h
    split at h
    · obtain ⟨h1, rfl⟩ := map_some' h
      obtain ⟨cs, hv, hc⟩ := hv
      exact ⟨cs, hv, ofCellsAll_TR hm hg h1 hq hc⟩
    · cases h
  | nb k =>
    simp only [readRes] at h
    unfold nbRes at h
    split at h
    · rename_i id
      split at h
      · rename_i cells hid
        obtain ⟨h1, rfl⟩ := map_some' h
        obtain ⟨cs, ty, hh, hc, hu⟩ := box_at hm (hg _ _ hid)
        exact ⟨_, _, hv.2.1, ⟨cs, ty, hh, ofCellsAll_TR hm hg h1 hq hc, hu⟩, by simp [blkL, hg _ _ hid, blkOf]⟩
      · cases h
    · cases h

theorem readRess_sound {C : Ctx} {m : Mem} (hm : MemR C m) {g : View} (hg : ViewOK g m.h) : ∀ {rs : List RK} {vs : List AV} {us : List Value} {q : List Prop} {r : RsT rs} {is : List Nat}, readRess rs vs g = some (q, r, is) → (∀ p ∈ q, p) → VRs C m vs us →
    ResL m.U m.w rs r us (is.flatMap (blkL m))
  | [], [], [], q, r, is, h, hq, hv => by
    simp only [readRess, Option.some.injEq, Prod.mk.injEq] at h
    obtain ⟨_, _, rfl⟩ := h
    exact ⟨rfl, rfl⟩
  | [], [], _ :: _, q, r, is, h, hq, hv => hv.elim
  | [], _ :: _, us, q, r, is, h, hq, hv => by simp [readRess] at h
  | _ :: _, [], us, q, r, is, h, hq, hv => by simp [readRess] at h
  | k :: rs, v :: vs, [], q, r, is, h, hq, hv => hv.elim
  | k :: rs, v :: vs, u :: us, q, r, is, h, hq, hv => by
    simp only [readRess] at h
    split at h
    · rename_i p1 x1 i1 h1
      split at h
      · rename_i p2 x2 i2 h2
        simp only [Option.some.injEq, Prod.mk.injEq] at h
        obtain ⟨rfl, rfl, rfl⟩ := h
        exact ⟨u, us, _, _, rfl, List.flatMap_append, readRes_sound hm hg h1 (fun p hp => hq p (by simp [hp])) hv.1, readRess_sound hm hg h2 (fun p hp => hq p (by simp [hp])) hv.2⟩
      · cases h
    · cases h

theorem readOuts_sound {C : Ctx} {m : Mem} (hm : MemR C m) {g : View} (hg : ViewOK g m.h) {io' : List Nat} {U1 : Addr → Prop} {w1 : World} : ∀ {ps : List PK} {x : PsT ps} {vs : List Value} {bs : List Nat} {i : Nat} {q : List Prop} {o : OsT ps} {js : List Nat},
    readOuts ps i g = some (q, o, js) → (∀ p ∈ q, p) → ArgsR C.P io' U1 w1 ps x vs bs →
    (∀ j g0 cells, vs[j]? = some (.pointer (some ⟨g0, 0, none⟩)) → m.h (16 * (i + j)) = some (.box cells) → (m.pl (16 * (i + j))).g = g0) → OutsR m.U m.w ps o vs (js.flatMap (blkL m))
  | [], x, vs, bs, i, q, o, js, h, hq, ha, hf => by
    simp only [readOuts, Option.some.injEq, Prod.mk.injEq] at h
    obtain ⟨_, _, rfl⟩ := h
    exact ⟨ha.1, rfl⟩
  | p :: ps, x, vs, bs, i, q, o, js, h, hq, ha, hf => by
    obtain ⟨v, r, b1, b2, rfl, rfl, h1, h2⟩ := ha
    have hf' : ∀ j g0 cells, r[j]? = some (.pointer (some ⟨g0, 0, none⟩)) → m.h (16 * (i + 1 + j)) = some (.box cells) → (m.pl (16 * (i + 1 + j))).g = g0 := fun j g0 cells q1 q2 => by
      have := hf (j + 1) g0 cells (by simpa using q1)
      rw [show i + (j + 1) = i + 1 + j by omega] at this
      exact this q2
    cases p with
    | val k => exact ⟨v, r, rfl, readOuts_sound hm hg (show readOuts ps (i + 1) g = _ from h) hq h2 hf'⟩
    | st k => exact ⟨v, r, rfl, readOuts_sound hm hg (show readOuts ps (i + 1) g = _ from h) hq h2 hf'⟩
    | ro k => exact ⟨v, r, rfl, readOuts_sound hm hg (show readOuts ps (i + 1) g = _ from h) hq h2 hf'⟩
    | fnp a b => exact ⟨v, r, rfl, readOuts_sound hm hg (show readOuts ps (i + 1) g = _ from h) hq h2 hf'⟩
    | box k =>
      obtain ⟨g0, bs', rfl, _, _⟩ := h1
      simp only [readOuts] at h
      split at h
      · rename_i cells hid
        split at h
        · rename_i p1 x1 h3
          split at h
          · rename_i p2 x2 j2 h4
            simp only [Option.some.injEq, Prod.mk.injEq] at h
            obtain ⟨rfl, rfl, rfl⟩ := h
            obtain ⟨cs, ty, hh, hc, hu⟩ := box_at hm (hg _ _ hid)
            have hgg : (m.pl (16 * i)).g = g0 := by
              have := hf 0 g0 cells (by simp)
              rw [Nat.add_zero] at this
              exact this (hg _ _ hid)
            rw [hgg] at hh hu
            refine ⟨g0, r, _, _, rfl, ?_, ⟨cs, ty, hh, ofCellsAll_TR hm hg h3 (fun p hp => hq p (by simp [hp])) hc, hu⟩, readOuts_sound hm hg h4 (fun p hp => hq p (by simp [hp])) h2 hf'⟩
            simp [blkL, hg _ _ hid, blkOf, hgg]
          · cases h
        · cases h
      · cases h

def EndsAs (io : List Nat) (U : Addr → Prop) (w : World) (fs : FSpec) (args : PsT fs.ps) (vs : List Value) (v : Value) (w' : World) : Prop :=
  ∃ U' rvs b1 b2, Post io U w U' w' ∧ v = valOf rvs ∧ ResL U' w' fs.rs (fs.fn args).1 rvs b1 ∧ OutsR U' w' fs.ps (fs.fn args).2 vs b2 ∧ (b1 ++ b2).Nodup ∧ ∀ b ∈ b1 ++ b2, w.heap.size ≤ b ∨ b ∈ io

theorem evFun_sound {P : Program} {T : Types} {E : Env} (hT : TyOK P T) (hE : EnvOK P E) (hmix : P.follows .mixedOrders = true) {f : FuncId} {fn : Func} {body : Code} (hf : P.funcs[f]? = some fn) (hb : fn.body = some body)
    (hname : (fn.name == "runtime.NumGoroutine") = false) {fs : FSpec}
    (h : ∀ args : PsT fs.ps, (∀ p ∈ fs.pre args, p) → ∃ ann, evFun T E fn.ntmps ann body fn.results.toList fs.ps fs.rs args (fun r o => (r, o) = fs.fn args)) : Sound P f fs := by
  intro U w vs args io hU hA hio hpre
  obtain ⟨ann, h⟩ := h args hpre
  unfold evFun at h
  simp only at h
  split at h
  · rename_i hc
    simp only [Bool.and_eq_true, Nat.ble_eq] at hc
    obtain ⟨m, hs, hh, hw, hmU⟩ := start (n := fn.ntmps) hU hA hio (nodupN_nodup hc.1.1) hc.2
    have hcall : (callFunc f vs.toArray).run P w = .ok (.enter f vs.toArray) w := by
      have hn : fn.name ≠ "runtime.NumGoroutine" := fun he => by rw [he] at hname; simp at hname
      simp [callFunc, program, Sem.run, hf, hn, hb]
    unfold CallOK
    rw [hcall]
    have hend : ∀ s' a' m', atEnd T fs.ps fs.rs fn.results.toList (fun r o => (r, o) = fs.fn args) s' → StR ⟨P, io, U, w, fixOf vs⟩ fn.ntmps s'.vs.t m' a' → m'.h = s'.vs.h →
        a'.defers = [] ∧ ∃ v, (results fn a'.tmps).run P m'.w = .ok v m'.w ∧ ∃ u, Ending.returned v = .returned u ∧ EndsAs io U w fs args vs u m'.w := by
      intro s' a' m' he hs' hh'
      unfold atEnd at he
      split at he
      · rename_i p1 avs h1
        split at he
        · rename_i p2 r is h2
          split at he
          · rename_i p3 o js h3
            split at he
            · rename_i hnd
              obtain ⟨hps, hro⟩ := conj_out he
              obtain ⟨rvs, k1, k2⟩ := retAVs_sound hT hs' hh' h1 (fun q hq => hps q (by simp [hq]))
              have hvo : ViewOK (get1 s'.h) m'.h := by rw [hh']; exact viewOK_refl _
              have k3 := readRess_sound hs'.mem hvo h2 (fun q hq => hps q (by simp [hq])) k2
              have k4 := readOuts_sound hs'.mem hvo h3 (fun q hq => hps q (by simp [hq])) hA (fun j g0 cells q1 q2 => by
                rw [Nat.zero_add] at q2 ⊢
                have hlt : j < vs.length := by
                  rcases Nat.lt_or_ge j vs.length with h' | h'
                  · exact h'
                  · rw [List.getElem?_eq_none h'] at q1; cases q1
                have hfx : fixOf vs (16 * j) = some g0 := by
                  unfold fixOf
                  rw [if_pos (by omega), show 16 * j / 16 = j by omega]
                  simp only [q1]
                have hl := argsR_length hA
                have h16 : 16 * j < 65536 := by have := hc.1.2; omega
                exact hs'.fixd (16 * j) g0 cells h16 hfx q2)
              have hro1 : (fs.fn args).1 = r := by rw [← hro]
              have hro2 : (fs.fn args).2 = o := by rw [← hro]
              refine ⟨hs'.defers, valOf rvs, ?_, _, rfl, m'.U, rvs, _, _, hs'.mem.post, rfl, by rw [hro1]; exact k3, by rw [hro2]; exact k4, ?_, fun b hbb => ?_⟩
              · unfold results
                rw [Array.mapM_eq_mapM_toList]
                have k5 : (List.toArray <$> fn.results.toList.mapM (fun (r : ResultVar) => (match r with | .tmp t => pure (a'.tmps.getD t undef) | .cell b t => do loadVar t (← asAddr (a'.tmps.getD b undef)) : Sem Value))).run P m'.w = .ok rvs.toArray m'.w := by
                  rw [Sem.run_map, k1]; rfl
                rw [Sem.run_bind]
                refine (congrArg (fun r => Result.andThen r _) k5).trans ?_
                rw [Result.andThen_ok]
                match rvs with
                | [] => rfl
                | [v] => rfl
                | _ :: _ :: _ => rfl
              · rw [← List.flatMap_append]
                exact io_nodup hs'.mem (nodupN_nodup hnd)
              · rw [← List.flatMap_append] at hbb
                obtain ⟨id, _, hbi⟩ := List.mem_flatMap.1 hbb
                obtain ⟨e, he, hbe⟩ := mem_blkL hbi
                exact hs'.mem.where_ id e b he hbe
            · exact he.elim
          · exact he.elim
        · exact he.elim
      · exact he.elim
    refine calls_of_wp hf hb ?_
    have hwp := evw_sound (C := ⟨P, io, U, w, fixOf vs⟩) hT hE hmix body (Q := bodyPost P fn fun e w'' => ∃ u, e = .returned u ∧ EndsAs io U w fs args vs u w'') h hs hh fun e s' a' m' hk hs' hh' => by
      cases e with
      | normal => exact hend s' a' m' hk hs' hh'
      | ret => exact hend s' a' m' hk hs' hh'
      | _ => exact hk.elim
    rw [hw] at hwp
    exact hwp
  · exact h.elim
end
end Go.Proofs.Ytmlolnaannoifaa
