/- A part of the proof that the law answers true, whatever its numbers are. -/
import Derived.Laws.Append
import Derived.Laws.AppendOwn
import Derived.Lib.AppendStr
import Derived.Lib.UnsafeStr
import Derived.Laws.IdiomCopy
import Derived.Lib.SliceRun
import Derived.Lib.AppendZeros
import Derived.MapKept
import Derived.RangeFuncLeaves
import Derived.TacticsIn
import Derived.OrdersIn
import Derived.Test.YtinfjeaocpifeaaGreatHx1
set_option linter.all false
/- One operation: slices made; parts of slices and texts; interfaces' values. -/
namespace Go.Hx
set_option autoImplicit false

section ops
variable {P : Program} {ι : Nm} {s s' : St} {w w' : World} {e : Env} {a : Act} {d : Nat} {o : Oper} {v : AV}

theorem run_buildSliceG (w : World) (t el : TypeId) (len : Nat) (parts : Array (Nat × Value)) (cells : Array Value) (ie : TypeInfo) (z : Value)
    (hu : P.underlying t = some (.slice el)) (hie : P.info? el = some ie) (hz : ie.zero = some z) (hsmall : ¬ len * ie.size > 2 ^ 24)
    (h : Instr.fill (fun i => some (i * ie.size, ie.size)) ((Array.range (len * ie.size)).map (z.cells[· % z.cells.size]!)) parts.toList = some cells) :
    (Instr.buildSlice t len parts).run P w = .ok (.slice (some ⟨w.heap.size, 0, none⟩) len len) (w.alloc (.cells cells el)) := by
  by_cases hpos : len * ie.size = 0
  · rw [hpos] at h
    simp [Instr.buildSlice, run_underlying hu, sizeOf, typeInfo, hie, hpos, newRow]
    have e0 : ∀ f : Nat → Value, (Array.range 0).map f = #[] := fun f => by simp
    rw [e0] at h
    rw [e0, h]
    simp
  · exact run_buildSlice w t el len parts cells ie z hu hie hz hsmall hpos h

/-- A literal's elements. -/
theorem lit_fill (he : REnv d ι (Mut ι s) w e a.tmps) {n sz : Nat} {z cs : List AV} {zv : Value} {ps : List (Nat × Operand)} {ps' : List (Nat × X)} (hs : 0 < sz) (hz : Reps ι (Mut ι s) w z zv.cells.toList) (hzl : z.length = sz)
    (hps : Parts (fun i => some (i * sz, sz)) ps (ps'.map fun (i, x) => (i * sz, sz, x))) (h : fill (repl n z) (evElems e sz ps') = some cs) :
    ∃ r, Instr.fill (fun i => some (i * sz, sz)) ((Array.range (n * sz)).map (zv.cells[· % zv.cells.size]!)) (ps.map fun (i, x) => (i, a.eval x)) = some r ∧ Reps ι (Mut ι s) w cs r.toList ∧ cs.length = n * sz := by
  have hzs : zv.cells.size = sz := by have := hz.len; rw [Array.length_toList] at this; omega
  have h1 : Reps ι (Mut ι s) w (repl n z) ((Array.range (n * sz)).map (zv.cells[· % zv.cells.size]!)).toList := by
    rw [made_eq hs hzs]; exact reps_repl hz n
  have e1 : evElems e sz ps' = evParts e (ps'.map fun (i, x) => (i * sz, sz, x)) := by
    clear hps h
    induction ps' with
    | nil => rfl
    | cons p l ih => obtain ⟨i, x⟩ := p; simp only [evElems, List.map_cons, evParts, ih]
  rw [e1] at h
  obtain ⟨r, q1, q2⟩ := fill_rep he hps h1 h
  refine ⟨r, q1, q2, ?_⟩
  have fl : ∀ (ps : List (Nat × Nat × AV)) (z cs : List AV), fill z ps = some cs → cs.length = z.length := by
    intro ps
    induction ps with
    | nil => intro z cs h; cases h; rfl
    | cons p l ih =>
      obtain ⟨o', n', v'⟩ := p
      intro z cs h
      simp only [fill] at h
      obtain ⟨hc, h⟩ := bif_some h
      simp only [Bool.and_eq_true] at hc
      rw [ih _ _ h]
      have q1 := Nat.eq_of_beq_eq_true hc.1
      have q2 := Nat.le_of_ble_eq_true hc.2
      simp only [splice, List.length_append, List.length_take, List.length_drop]; omega
  rw [fl _ _ _ h]
  simp only [repl, List.length_flatten, List.map_replicate, hzl, List.sum_replicate_nat]

theorem elems_rep {M : Nat → Prop} {sz n : Nat} {cs : List AV} {us : Array Value} {ad : Addr} (hs : 0 < sz) (hl : cs.length = n * sz) (hrep : Reps ι M w cs us.toList) (hm : ¬ M ad.block)
    (hc : ∀ (k : Nat) (u : Value), us[k]? = some u → w.cell? (ad.add k) = some u) : Rep ι M w (.sl true (elems sz cs)) (.slice (some ad) n n) := by
  obtain ⟨q1, q2, q3⟩ := elems_ok hs hl
  refine .sl _ _ _ _ _ sz us.toList q1 (by rw [hrep.len, hl]) q3 (fun _ => hm) (fun k u hu => hc k u (by simpa using hu)) ?_ (Nat.le_refl _) (fun _ => rfl)
  rw [q2]; exact hrep.at_

theorem k_bsl (hr : Rel ι s w) (he : REnv d ι (Mut ι s) w e a.tmps) {t el : TypeId} {n : Nat} {ps : Array (Nat × Operand)} {ps' : List (Nat × X)} {z : List AV} {i : TypeInfo} (ho : o.op = .buildSlice t n ps) (ht : P.underlying t = some (.slice el))
    (hi : P.info? el = some i) (hz : zeroOf P el = some z) (hs : 0 < i.size) (hsm : n * i.size ≤ 2 ^ 24) (hzl : z.length = i.size)
    (hps : Parts (fun j => some (j * i.size, i.size)) ps.toList (ps'.map fun (j, x) => (j * i.size, i.size, x)))
    (h : oBsl s i.size (fill (repl n z) (evElems e i.size ps')) = .ok v s') : StepOk ((execOp a.eval o).run P w) ι s w v s' := by
  obtain ⟨i', zv, h1, h2, h3⟩ := zeroOf_rep (P := P) (ι := ι) (M := Mut ι s) (w := w) hz
  rw [hi] at h1; cases h1
  cases hf : fill (repl n z) (evElems e i.size ps') with
  | none => rw [hf] at h; cases h
  | some cs =>
    rw [hf] at h
    obtain ⟨rfl, rfl⟩ := ok_inj h
    obtain ⟨r, q1, q2, q3⟩ := lit_fill he hs h3 hzl hps hf
    have hrun := run_buildSliceG (P := P) w t el n (ps.map fun (i, x) => (i, a.eval x)) r i zv ht hi h2 (by omega) (by rw [parts_map]; exact q1)
    have hN : Nxt ι s w ι s (w.alloc (.cells r el)) := ⟨rfl, rfl, rfl, by simp, fun k hk _ => keep_alloc w _ k hk, fun _ h => .inl h, fun _ _ h => h, Nat.le_refl _, rfl, rfl, fun b hb => keep_alloc w _ b (hr.xlt b hb), fun _ _ _ => rfl, .inl rfl⟩
    have hrel : Rel ι s (w.alloc (.cells r el)) := ⟨hr.inj, fun m b hb => by
      obtain ⟨l, hl, hbr⟩ := hr.blk m b hb
      exact ⟨l, hl, hbr.mono hN (keep_alloc w _ _ hbr.lt)⟩, hr.fresh, hr.res, hr.deep, fun b hb => Nat.lt_of_lt_of_le (hr.xlt b hb) hN.size, hr.xdis⟩
    refine ⟨.slice (some ⟨w.heap.size, 0, none⟩) n n, _, ι, .inl (by simp only [execOp, ho, Sem.run_bind, hrun, Result.andThen_ok, Sem.run_pure]), hrel, hN, ?_⟩
    refine elems_rep hs q3 (q2.mono hN) ?_ ?_
    · rintro (⟨m, b, l, e1, e2, e3⟩ | hx)
      · have := (hr.at_ e1 e2).lt
        simp at e3; omega
      · have := hr.xlt _ hx; simp at this
    · intro k u hu
      rw [cell_at (new_alloc w _)]
      simpa using hu

theorem new_row (hr : Rel ι s w) {w0 : World} (h0 : w0.heap = w.heap) (hs : Same w w0) {cs : List AV} {arr : Array Value} (t sz n cap : Nat) (hrep : Reps ι (Mut ι s) w cs (arr.toList.take cs.length)) (hle : cs.length ≤ arr.size)
    (hsz : arr.size = cap * sz) (hn : n ≤ cap) :
    ∃ ι', Rel ι' (s.add (.row 0 t sz cs)) (w0.alloc (.cells arr t)) ∧ Nxt ι s w ι' (s.add (.row 0 t sz cs)) (w0.alloc (.cells arr t)) ∧
      Rep ι' (Mut ι' (s.add (.row 0 t sz cs))) (w0.alloc (.cells arr t)) (.vw s.nm 0 n) (.slice (some ⟨w.heap.size, 0, none⟩) n cap) := by
  have hk : ∀ k, k < w.heap.size → (w0.alloc (.cells arr t)).heap[k]? = w.heap[k]? := fun k hk => by
    rw [keep_alloc w0 _ k (by rw [h0]; exact hk), h0]
  have hN := nxt_add (b := .row 0 t sz cs) (l := ⟨w.heap.size, cap, sz⟩) hr (Nat.le_refl _) (w' := w0.alloc (.cells arr t)) ⟨hs.os, hs.tape, hs.output⟩ (by simp [h0]) hk
  refine ⟨_, rel_add hr (Nat.le_refl _) hN hk (.row _ _ _ ⟨w.heap.size, cap, sz⟩ arr (0, 0) ?_ hsz hle (hrep.mono hN) (.inl rfl)), hN, ?_⟩
  · show (w0.alloc (.cells arr t)).heap[w.heap.size]? = _
    rw [← h0]; exact new_alloc w0 _
  · exact .vw _ _ _ _ _ ⟨w.heap.size, cap, sz⟩ _ (Nm.put_self _ _ _) (Nat.zero_le _) hn rfl hn (fun _ => by simp) (fun _ => ⟨rfl, rfl⟩)

theorem k_bsr (hr : Rel ι s w) (he : REnv d ι (Mut ι s) w e a.tmps) {t el : TypeId} {n : Nat} {ps : Array (Nat × Operand)} {ps' : List (Nat × X)} {z : List AV} {i : TypeInfo} (ho : o.op = .buildSlice t n ps) (ht : P.underlying t = some (.slice el))
    (hi : P.info? el = some i) (hz : zeroOf P el = some z) (hs : 0 < i.size) (hsm : n * i.size ≤ 2 ^ 24) (hzl : z.length = i.size)
    (hps : Parts (fun j => some (j * i.size, i.size)) ps.toList (ps'.map fun (j, x) => (j * i.size, i.size, x)))
    (h : oBsr s el i.size n (fill (repl n z) (evElems e i.size ps')) = .ok v s') : StepOk ((execOp a.eval o).run P w) ι s w v s' := by
  obtain ⟨i', zv, h1, h2, h3⟩ := zeroOf_rep (P := P) (ι := ι) (M := Mut ι s) (w := w) hz
  rw [hi] at h1; cases h1
  cases hf : fill (repl n z) (evElems e i.size ps') with
  | none => rw [hf] at h; cases h
  | some cs =>
    rw [hf] at h
    obtain ⟨rfl, rfl⟩ := ok_inj h
    obtain ⟨r, q1, q2, q3⟩ := lit_fill he hs h3 hzl hps hf
    have hrun := run_buildSliceG (P := P) w t el n (ps.map fun (i, x) => (i, a.eval x)) r i zv ht hi h2 (by omega) (by rw [parts_map]; exact q1)
    have hlen : r.size = n * i.size := by have := q2.len; rw [Array.length_toList] at this; omega
    obtain ⟨ι', g1, g2, g3⟩ := new_row hr (w0 := w) rfl ⟨rfl, rfl, rfl⟩ el i.size n n (cs := cs) (arr := r)
      (by rw [List.take_of_length_le (by rw [Array.length_toList]; omega)]; exact q2) (by omega) hlen (Nat.le_refl _)
    exact ⟨_, _, ι', .inl (by simp only [execOp, ho, Sem.run_bind, hrun, Result.andThen_ok, Sem.run_pure]), g1, g2, g3⟩

theorem k_mksl (hr : Rel ι s w) (he : REnv d ι (Mut ι s) w e a.tmps) {t el : TypeId} {x y : Operand} {x' y' : X} {z : List AV} {i : TypeInfo} (ho : o.op = .makeSlice t x y) (hx : xOf x = some x') (hy : xOf y = some y')
    (ht : P.underlying t = some (.slice el)) (hi : P.info? el = some i) (hz : zeroOf P el = some z) (hs : 0 < i.size) (hzl : z.length = i.size)
    (h : oMksl s el i.size i.bytes z (nat? (x'.ev e)) (nat? (y'.ev e)) = .ok v s') : StepOk ((execOp a.eval o).run P w) ι s w v s' := by
  have rx := x_rep he hx
  have ry := x_rep he hy
  obtain ⟨i', zv, h1, h2, h3⟩ := zeroOf_rep (P := P) (ι := ι) (M := Mut ι s) (w := w) hz
  rw [hi] at h1; cases h1
  unfold oMksl at h
  split at h
  · rename_i l c hl hc
    obtain ⟨hg, h⟩ := bif_out h
    obtain ⟨rfl, rfl⟩ := ok_inj h
    simp only [Bool.and_eq_true] at hg
    have g1 := Nat.le_of_ble_eq_true hg.1.1
    have g2 := Nat.le_of_ble_eq_true hg.1.2
    have g3 := Nat.le_of_ble_eq_true hg.2
    obtain ⟨kl, hkl⟩ := nat?_some hl
    obtain ⟨kc, hkc⟩ := nat?_some hc
    rw [hkl] at rx; rw [hkc] at ry
    generalize hp : a.eval x = p at rx
    generalize hq : a.eval y = q at ry
    cases rx; cases ry
    have hzs : zv.cells.size = i.size := by have := h3.len; rw [Array.length_toList] at this; omega
    have g3' : ((c * i.bytes : Nat) : Int) ≤ 140737488355328 := Int.ofNat_le.2 g3
    have hrun := run_make (P := P) w t el i zv ht hi h2 kl kc (l : Int) (c : Int) (by omega) (by omega)
      (by rw [Nat.mul_comm] at g3'; rw [Int.natCast_mul] at g3'; omega) (by simp only [room] at g2; omega)
    simp only [Int.toNat_natCast] at hrun
    have hmade := made_eq hs hzs c
    have hmsz : (madeCells zv.cells (c * i.size)).size = c * i.size := size_madeCells _ _
    have hm : (madeCells zv.cells (c * i.size)).toList = (List.replicate c zv.cells.toList).flatten := hmade
    generalize madeCells zv.cells (c * i.size) = arr at hrun hmsz hm
    have hrl : (repl l z).length = l * i.size := by simp only [repl, List.length_flatten, List.map_replicate, hzl, List.sum_replicate_nat]
    have htk : arr.toList.take (repl l z).length = (List.replicate l zv.cells.toList).flatten := by
      have hzl' : zv.cells.toList.length = i.size := by rw [Array.length_toList]; exact hzs
      have hll : ((List.replicate l zv.cells.toList).flatten).length = l * i.size := by
        simp only [List.length_flatten, List.map_replicate, hzl', List.sum_replicate_nat]
      rw [hm, show c = l + (c - l) by omega, ← List.replicate_append_replicate, List.flatten_append, hrl]
      exact List.take_left' hll
    obtain ⟨ι', q1, q2, q3⟩ := new_row hr (w0 := w) rfl ⟨rfl, rfl, rfl⟩ el i.size l c (cs := repl l z) (arr := arr)
      (by rw [htk]; exact reps_repl h3 l) (by rw [hrl, hmsz]; exact Nat.mul_le_mul_right _ g1) hmsz g1
    exact ⟨_, _, ι', .inl (by simp only [execOp, ho, hp, hq, Sem.run_bind, hrun, Result.andThen_ok, Sem.run_pure]), q1, q2, q3⟩
  · cases h

theorem k_mkmap (hr : Rel ι s w) (he : REnv d ι (Mut ι s) w e a.tmps) {t : TypeId} {rs : Option Operand} (ho : o.op = .makeMap t rs) (hrs : ∀ x, rs = some x → ∃ k n kt et, x = .const (.int k n) ∧ P.underlying t = some (.map kt et)) (h : OutV.ok (.map s.nm) (s.add (.map 0 [])) = .ok v s') :
    StepOk ((execOp a.eval o).run P w) ι s w v s' := by
  obtain ⟨rfl, rfl⟩ := ok_inj h
  have hN := nxt_add (b := .map 0 []) (l := ⟨w.heap.size, 0, 0⟩) hr (Nat.le_refl _) (same_alloc w (.map #[] 0)) (by simp) (keep_alloc w _)
  refine ⟨.map (some w.heap.size), w.alloc (.map #[] 0), _, .inl ?_, rel_add hr (Nat.le_refl _) hN (keep_alloc w _) (.map _ _ _ #[] 0 (new_alloc w _) reps_nil reps_nil), hN, .map _ ⟨w.heap.size, 0, 0⟩ (Nm.put_self _ _ _)⟩
  cases rs with
  | none => simp [execOp, ho, Instr.makeMap]
  | some x =>
    obtain ⟨k, n, kt, et, rfl, hu⟩ := hrs x rfl
    simp [execOp, ho, Instr.makeMap, run_underlying hu, Act.eval, asInt, asIntOf]

theorem k_tas (hr : Rel ι s w) (he : REnv d ι (Mut ι s) w e a.tmps) {xt t : TypeId} {x : Operand} {x' : X} {ok : Bool} {D : TypeDesc} {z : AV} (ho : o.op = .typeAssert x xt t ok) (hx : xOf x = some x')
    (ht : P.underlying t = some D) (hD : ∀ ms, D ≠ .interface ms) (hz : zeroV P t = some z) (h : oTas s t z ok (x'.ev e) = .ok v s') : StepOk ((execOp a.eval o).run P w) ι s w v s' := by
  have rx := x_rep he hx
  obtain ⟨i, zv, h1, h2, h3⟩ := zeroV_rep (P := P) (ι := ι) (M := Mut ι s) (w := w) hz
  have hzr := run_zero (P := P) h1 h2 w
  have tup2 : ∀ {p : AV} {q : Value} (b : Bool), Rep ι (Mut ι s) w p q → Rep ι (Mut ι s) w (.tup [p, .bool b]) (.tuple #[q, .bool b]) := fun b hpq =>
    reps_tup (reps_cons hpq (reps_cons (.bool b) reps_nil))
  unfold oTas at h
  split at h
  · rename_i u y hv
    rw [hv] at rx
    generalize hp : a.eval x = p at rx
    cases rx with
    | iface _ _ q hq =>
    cases hu : Nat.beq u t with
    | true =>
      rw [hu] at h
      obtain ⟨rfl, rfl⟩ := ok_inj h
      have hu := Nat.eq_of_beq_eq_true hu
      subst hu
      cases ok with
      | true =>
        refine step_pure hr (u := .tuple #[q, .bool true]) ?_ (tup2 true hq)
        simp only [execOp, ho, hp, Instr.typeAssert, Sem.run_bind, run_underlying ht, Result.andThen_ok]
        cases D <;> first | (exact absurd rfl (hD _)) | simp
      | false =>
        refine step_pure hr (u := q) ?_ hq
        simp only [execOp, ho, hp, Instr.typeAssert, Sem.run_bind, run_underlying ht, Result.andThen_ok]
        cases D <;> first | (exact absurd rfl (hD _)) | simp
    | false =>
      rw [hu] at h
      have hne : u ≠ t := fun hh => by rw [hh, Nat.beq_refl] at hu; cases hu
      cases ok with
      | false => cases h
      | true =>
        obtain ⟨rfl, rfl⟩ := ok_inj h
        refine step_pure hr (u := .tuple #[zv, .bool false]) ?_ (tup2 false h3)
        simp only [execOp, ho, hp, Instr.typeAssert, Sem.run_bind, run_underlying ht, Result.andThen_ok]
        cases D <;> first | (exact absurd rfl (hD _)) | simp [hne, hzr]
  · rename_i hv
    rw [hv] at rx
    generalize hp : a.eval x = p at rx
    cases rx
    cases ok with
    | false => cases h
    | true =>
      obtain ⟨rfl, rfl⟩ := ok_inj h
      refine step_pure hr (u := .tuple #[zv, .bool false]) ?_ (tup2 false h3)
      simp only [execOp, ho, hp, Instr.typeAssert, Sem.run_bind, run_underlying ht, Result.andThen_ok]
      cases D <;> first | (exact absurd rfl (hD _)) | simp [hzr]
  · cases h
end ops
end Go.Hx

/- One operation: parts of slices and texts. -/
namespace Go.Hx
set_option autoImplicit false

section ops
variable {P : Program} {ι : Nm} {s s' : St} {w w' : World} {e : Env} {a : Act} {d : Nat} {o : Oper} {v : AV}

/-- A bound of a slice, as an operand gives it. -/
def BoundOk (x : Option Value) (n dflt : Nat) : Prop := (x = none ∧ n = dflt) ∨ ∃ k, x = some (.int k (n : Int))
theorem bound_ok (he : REnv d ι (Mut ι s) w e a.tmps) {x : Option Operand} {x' : Option X} {n dflt : Nat} (hx : xo x = some x') (h : bound e x' dflt = some n) : BoundOk (x.map a.eval) n dflt := by
  cases x with
  | none => cases hx; cases h; exact .inl ⟨rfl, rfl⟩
  | some x =>
    simp only [xo] at hx
    obtain ⟨y, hy, rfl⟩ := Option.map_eq_some_iff.1 hx
    obtain ⟨k, hk⟩ := nat?_some (show nat? (y.ev e) = some n from h)
    have := x_rep he hy
    rw [hk] at this
    refine .inr ⟨k, ?_⟩
    simp only [Option.map_some]
    generalize a.eval x = q at this
    cases this; rfl

theorem run_sliceBoundN (k : IntKind) (n y : Nat) (code : BoundsCode) (h : n ≤ y) : (Instr.sliceBound (.int k (n : Int)) y code).run P w = .ok n w := by
  have h1 : (0 : Int) ≤ (n : Int) ∧ (n : Int) ≤ (y : Int) := ⟨by omega, by omega⟩
  simp [Instr.sliceBound, asIntOf, h]

theorem run_sliceG {t el : TypeId} {i : TypeInfo} (ht : P.underlying t = some (.slice el)) (hi : P.info? el = some i) {b : Option Addr} {len cap l h : Nat} {lo hi' : Option Value} (hlo : BoundOk lo l 0) (hhi : BoundOk hi' h len)
    (h1 : l ≤ h) (h2 : h ≤ cap) : (Instr.sliceAt t (.slice b len cap) lo hi' none).run P w = .ok (.slice (if cap = l then b else b.map (·.add (l * i.size))) (h - l) (cap - l)) w := by
  rcases hlo with ⟨rfl, rfl⟩ | ⟨kl, rfl⟩ <;> rcases hhi with ⟨rfl, rfl⟩ | ⟨kh, rfl⟩ <;>
    simp [Instr.sliceAt, Instr.slice, Instr.sliceBounds, run_underlying ht, rsize hi, run_sliceBoundN, h1, h2]
theorem run_sliceM {t el : TypeId} {i : TypeInfo} (ht : P.underlying t = some (.slice el)) (hi : P.info? el = some i) {b : Option Addr} {len cap l h m : Nat} {lo : Option Value} {kh km : IntKind} (hlo : BoundOk lo l 0)
    (h1 : l ≤ h) (h2 : h ≤ m) (h3 : m ≤ cap) : (Instr.sliceAt t (.slice b len cap) lo (some (.int kh (h : Int))) (some (.int km (m : Int)))).run P w = .ok (.slice (if m = l then b else b.map (·.add (l * i.size))) (h - l) (m - l)) w := by
  rcases hlo with ⟨rfl, rfl⟩ | ⟨kl, rfl⟩ <;>
    simp [Instr.sliceAt, Instr.slice, Instr.sliceBounds, run_underlying ht, rsize hi, run_sliceBoundN, h1, h2, h3]

theorem cellsOf_take {sz : Nat} {xs : List AV} (hs : ∀ x ∈ xs, x.cells.length = sz) (n : Nat) : cellsOf (xs.take n) = (cellsOf xs).take (n * sz) := by
  induction xs generalizing n with
  | nil => simp [cellsOf]
  | cons x xs ih =>
    cases n with
    | zero => simp [cellsOf]
    | succ n =>
      have hx := hs x List.mem_cons_self
      have := ih (fun y hy => hs y (List.mem_cons_of_mem _ hy)) n
      simp only [cellsOf, List.take_succ_cons, List.flatMap_cons] at *
      rw [this, show (n + 1) * sz = x.cells.length + n * sz by rw [hx, Nat.succ_mul]; omega, List.take_length_add_append]
theorem cellsOf_drop {sz : Nat} {xs : List AV} (hs : ∀ x ∈ xs, x.cells.length = sz) (n : Nat) : cellsOf (xs.drop n) = (cellsOf xs).drop (n * sz) := by
  induction xs generalizing n with
  | nil => simp [cellsOf]
  | cons x xs ih =>
    cases n with
    | zero => simp [cellsOf]
    | succ n =>
      have hx := hs x List.mem_cons_self
      have := ih (fun y hy => hs y (List.mem_cons_of_mem _ hy)) n
      simp only [cellsOf, List.drop_succ_cons, List.flatMap_cons] at *
      rw [this, show (n + 1) * sz = x.cells.length + n * sz by rw [hx, Nat.succ_mul]; omega, ← List.drop_drop, List.drop_left]

/-- A part of a slice whose elements stay. -/
theorem sl_part {M : Nat → Prop} {f f' : Bool} {xs : List AV} {ad : Addr} {n c l h m sz : Nat} (hx : Rep ι M w (.sl f xs) (.slice (some ad) n c)) (h1 : l ≤ h) (h2 : h ≤ n) (hm : h ≤ m) (hf : f' = true → m = h)
    (hsz : szOk sz xs = true) : Rep ι M w (.sl f' ((xs.take h).drop l)) (.slice (if m = l then some ad else (some ad).map (·.add (l * sz))) (h - l) (m - l)) := by
  cases hx with
  | sl _ _ _ _ _ sz' us e0 e1 e2 e3 e4 e5 e6 e7 =>
  have hlen : ((xs.take h).drop l).length = h - l := by rw [List.length_drop, List.length_take]; omega
  by_cases hlt : l < h
  · have hszz : sz' = sz := by
      cases xs with
      | nil => simp at e0; omega
      | cons x xs =>
        have := e2 x List.mem_cons_self
        have := Nat.eq_of_beq_eq_true hsz
        omega
    subst hszz
    have hrep : Reps ι M w (cellsOf xs) us := ⟨by rw [e1, cellsOf_len e2, e0], e5⟩
    have hsub := reps_drop (reps_take hrep (h * sz')) (l * sz')
    have hmem : ∀ x ∈ (xs.take h).drop l, x.cells.length = sz' := fun x hx => e2 x (List.mem_of_mem_take (List.mem_of_mem_drop hx))
    rw [if_neg (by omega), Option.map_some]
    refine .sl _ _ _ _ _ sz' ((us.take (h * sz')).drop (l * sz')) hlen ?_ hmem ?_ ?_ ?_ (by omega) (fun hh => by rw [hf hh])
    · rw [List.length_drop, List.length_take, e1, Nat.sub_mul, Nat.min_eq_left (Nat.mul_le_mul_right _ h2)]
    · intro hne; rw [add_block]; exact e3 (by rintro rfl; simp at hne)
    · intro k u hu
      rw [add_add]
      rw [List.getElem?_drop, List.getElem?_take] at hu
      split at hu
      · exact e4 _ u hu
      · cases hu
    · have q1 : cellsOf ((xs.take h).drop l) = ((cellsOf xs).take (h * sz')).drop (l * sz') := by
        rw [cellsOf_drop (sz := sz') (fun x hx => e2 x (List.mem_of_mem_take hx)), cellsOf_take e2]
      rw [q1]; exact hsub.at_
  · have h0 : (xs.take h).drop l = [] := List.length_eq_zero_iff.1 (by omega)
    rw [h0]
    obtain ⟨ad', had⟩ : ∃ ad', (if m = l then some ad else (some ad).map (·.add (l * sz))) = some ad' := by split <;> exact ⟨_, rfl⟩
    rw [had]
    refine .sl _ _ _ _ _ 0 [] (by simp; omega) (by simp) (fun x hx => by simp at hx) (fun h => absurd rfl h) (fun k u hu => by simp at hu) (fun k v u hv hu => by simp at hu) (by omega) (fun hh => by rw [hf hh])

theorem els_sl {M : Nat → Prop} {xs : List AV} {u : Value} {ad : Addr} {c sz : Nat} {us : List Value} (hE : Els ι M w xs u (some ad) c sz us) (hm : us ≠ [] → ¬ M ad.block) (hc : xs.length ≤ c) : Rep ι M w (.sl false xs) u := by
  rw [hE.val]
  exact .sl _ _ _ _ _ sz us rfl hE.len hE.size hm (hE.cell ad rfl) hE.rep.at_ hc (fun h => by cases h)

theorem rowSz_ok (hr : Rel ι s w) {n z : Nat} {l : Loc} (h : rowSz s n = some z) (hl : ι n = some l) : l.sz = z := by
  unfold rowSz at h
  split at h
  · rename_i hb
    cases h
    have := hr.at_ hb hl
    cases this with
    | row _ _ _ _ arr fz e1 e2 e3 e4 e5 => rfl
  · rename_i hb
    cases h
    have := hr.at_ hb hl
    cases this with
    | bytes _ _ _ _ arr fz e1 e2 e3 e4 e5 e6 e7 => exact e3
  · cases h

theorem k_sub0 (hr : Rel ι s w) (he : REnv d ι (Mut ι s) w e a.tmps) {t el : TypeId} {x : Operand} {x' : X} {lo hi : Option Operand} {lo' hi' : Option X} {i : TypeInfo} (ho : o.op = .slice t x lo hi none) (hx : xOf x = some x')
    (hlo : xo lo = some lo') (hhi : xo hi = some hi') (ht : P.underlying t = some (.slice el)) (hi0 : P.info? el = some i) (h : oSub e s i.size (x'.ev e) lo' hi' none = .ok v s') : StepOk ((execOp a.eval o).run P w) ι s w v s' := by
  have rx := x_rep he hx
  simp only [oSub] at h
  obtain ⟨h, rfl⟩ := oVal_ok h
  unfold sub at h
  split at h
  · cases h
  · rename_i n hn
    split at h
    · rename_i l hh hl hh'
      obtain ⟨hg, hq⟩ := bif_some h
      clear h
      simp only [Bool.and_eq_true] at hg
      have g1 := Nat.le_of_ble_eq_true hg.1
      have g2 := Nat.le_of_ble_eq_true hg.2
      have b1 := bound_ok he hlo hl
      have b2 := bound_ok he hhi hh'
      simp only at hq
      obtain ⟨b, c, hv⟩ := slen_rep hn rx
      have hcap : n ≤ c := by
        rw [hv] at rx
        cases hxe : x'.ev e <;> rw [hxe] at hn rx <;> first | (cases hn; done) | skip
        · cases hn; exact Nat.zero_le _
        · cases rx; assumption
        · cases rx; assumption
      have hrun := run_sliceG (w := w) ht hi0 (b := b) b1 b2 g1 (Nat.le_trans g2 hcap)
      refine step_pure hr (by simp only [execOp, ho, hv, Sem.run_bind, Option.map_none, hrun, Result.andThen_ok, Sem.run_pure]; rfl) ?_
      rw [hv] at rx
      split at hq
      · rename_i hxe
        rw [hxe] at rx hn
        cases hq; cases hn
        cases rx
        have : hh = 0 := by omega
        subst this
        have : l = 0 := by omega
        subst this
        exact .snil
      · rename_i f xs hxe
        rw [hxe] at rx hn
        obtain ⟨hs, hq⟩ := bif_some hq
        cases hq; cases hn
        cases b with
        | none => cases rx
        | some ad =>
          refine sl_part rx g1 g2 (Nat.le_trans g2 hcap) (fun hf => ?_) hs
          simp only [Bool.and_eq_true] at hf
          have := Nat.eq_of_beq_eq_true hf.2
          cases rx with
          | sl _ _ _ _ _ sz' us e0 e1 e2 e3 e4 e5 e6 e7 => rw [e7 hf.1]; exact this.symm
      · rename_i m lo0 hi1 hxe
        rw [hxe] at rx hn
        cases hn
        split at hq
        · rename_i z hz
          obtain ⟨hs, hq⟩ := bif_some hq
          cases hq
          have hs := Nat.eq_of_beq_eq_true hs
          subst hs
          cases b with
          | none => cases rx
          | some ad =>
          cases rx with
          | vw _ _ _ _ _ lc _ e1 e2 e3 e4 e5 e6 e7 =>
          have hsz := rowSz_ok hr hz e1
          obtain ⟨ad', had⟩ : ∃ ad', (if c = l then some ad else (some ad).map (·.add (l * i.size))) = some ad' := by split <;> exact ⟨_, rfl⟩
          rw [had]
          refine .vw _ _ _ _ _ lc ad' e1 (by omega) (by omega) (by omega) (by omega) ?_ ?_
          · intro hlt
            rw [if_neg (by omega), Option.map_some] at had
            cases had
            rw [e6 (by omega), add_lit, hsz, ← Nat.add_mul]
          · intro h0
            have l0 : lo0 = 0 := by omega
            have l1 : l = 0 := by omega
            subst l1
            obtain ⟨q1, q2⟩ := e7 l0
            have : ad' = ad := by
              split at had
              · cases had; rfl
              · simp [Addr.add] at had; exact had.symm
            rw [this]
            exact ⟨q1, by omega⟩
        · cases hq
      · cases hq
    · cases h

theorem k_subM (hr : Rel ι s w) (he : REnv d ι (Mut ι s) w e a.tmps) {t el : TypeId} {x hi mx : Operand} {x' hi' mx' : X} {lo : Option Operand} {lo' : Option X} {i : TypeInfo} (ho : o.op = .slice t x lo (some hi) (some mx)) (hx : xOf x = some x')
    (hlo : xo lo = some lo') (hhi : xOf hi = some hi') (hmx : xOf mx = some mx') (ht : P.underlying t = some (.slice el)) (hi0 : P.info? el = some i) (h : oSub e s i.size (x'.ev e) lo' (some hi') (some mx') = .ok v s') :
    StepOk ((execOp a.eval o).run P w) ι s w v s' := by
  have rx := x_rep he hx
  /- what comes of a part of elements that stay -/
  have key : ∀ {s1 : St} {f : Bool} {xs : List AV} {u v : AV} {p : Value}, Rep ι (Mut ι s1) w (.sl f xs) p → p = a.eval x → sub e s1 i.size (.sl f xs) lo' (some hi') (some mx') = some v →
      ∃ q, (execOp a.eval o).run P w = .ok (.value q) w ∧ Rep ι (Mut ι s1) w v q := by
    intro s1 f xs u v p hrp hp h
    unfold sub at h
    simp only [slen] at h
    split at h
    · rename_i l hh hl hh'
      obtain ⟨hg, h⟩ := bif_some h
      simp only [Bool.and_eq_true] at hg
      have g1 := Nat.le_of_ble_eq_true hg.1
      have g2 := Nat.le_of_ble_eq_true hg.2
      split at h
      · rename_i m hm
        obtain ⟨he2, h⟩ := bif_some h
        have he2 := Nat.eq_of_beq_eq_true he2
        subst he2
        obtain ⟨hs, h⟩ := bif_some h
        cases h
        have b1 := bound_ok he hlo hl
        obtain ⟨kh, hkh⟩ := nat?_some (show nat? (hi'.ev e) = some m from hh')
        obtain ⟨km, hkm⟩ := nat?_some hm
        have r1 := x_rep he hhi
        have r2 := x_rep he hmx
        rw [hkh] at r1; rw [hkm] at r2
        generalize hp1 : a.eval hi = p1 at r1
        generalize hp2 : a.eval mx = p2 at r2
        cases r1; cases r2
        obtain ⟨b, c, hv⟩ := slen_rep (x := .sl f xs) rfl hrp
        subst hv
        have hcap : xs.length ≤ c := by cases hrp; assumption
        cases b with
        | none => cases hrp
        | some ad =>
        have hrun := run_sliceM (w := w) ht hi0 (b := some ad) (len := xs.length) (cap := c) (kh := kh) (km := km) b1 g1 (Nat.le_refl m) (by omega)
        exact ⟨_, by simp only [execOp, ho, ← hp, Sem.run_bind, Option.map_some, hp1, hp2, hrun, Result.andThen_ok, Sem.run_pure], sl_part hrp g1 g2 (Nat.le_refl m) (fun _ => rfl) hs⟩
      · cases h
    · cases h
  simp only [oSub] at h
  split at h
  · rename_i n lo0 hi1 hxe
    split at h
    · rename_i xs hxs
      split at h
      · rename_i v1 hv1
        obtain ⟨rfl, rfl⟩ := ok_inj h
        rw [hxe] at rx
        obtain ⟨b, c, sz, us, hE⟩ := slist_rep hr hxs rx
        cases b with
        | none => have := hE.val; rw [this] at rx; cases rx
        | some ad =>
        have hb : ∃ bl, s.get n = some bl := by
          unfold slist at hxs
          simp only at hxs
          cases hg : s.get n with
          | none => rw [hg] at hxs; cases hxs
          | some bl => exact ⟨bl, rfl⟩
        obtain ⟨bl, hb⟩ := hb
        have hval := hE.val
        rw [hval] at rx
        cases rx with
        | vw _ _ _ _ _ lc _ e1 e2 e3 e4 e5 e6 e7 =>
        have hN := nxt_put (w' := w) (x := none) hr hb e1 ⟨rfl, rfl, rfl⟩ rfl (fun _ _ => rfl)
        have hrel := rel_put hr hb e1 hN (fun _ _ => rfl) (fun _ h => by cases h)
        have hEm : Els ι (Mut ι (s.put n none)) w xs (a.eval x) (some ad) c sz us := ⟨hval, hE.len, hE.size, hE.rep.mono hN, hE.cell, hE.none⟩
        have hnm : us ≠ [] → ¬ Mut ι (s.put n none) ad.block := by
          intro hne hmut
          have hxl : xs.length ≠ 0 := fun h0 => hne (List.length_eq_zero_iff.1 (by rw [hE.len, h0]; simp))
          have had := e6 (by omega)
          rcases hmut with ⟨m, bl', l', f1, f2, f3⟩ | hx
          · rcases get_put f1 with ⟨_, f⟩ | ⟨hmn, f1⟩
            · cases f
            · rw [had] at f3
              exact hmn (hr.inj m n _ _ l' lc f1 hb f2 e1 f3)
          · rw [had] at hx; exact hr.xdis n _ lc hb e1 hx
        obtain ⟨q, q1, q2⟩ := key (u := v1) (els_sl hEm hnm e5) rfl hv1
        exact ⟨q, w, ι, .inl q1, hrel, hN, q2⟩
      · cases h
    · cases h
  · rename_i hne
    obtain ⟨h, rfl⟩ := oVal_ok h
    cases hxe : x'.ev e with
    | sl f xs =>
      rw [hxe] at h rx
      obtain ⟨q, q1, q2⟩ := key (u := v) rx rfl h
      exact step_pure hr q1 q2
    | snil =>
      rw [hxe] at h rx
      unfold sub at h
      simp only [slen] at h
      split at h
      · rename_i l hh hl hh'
        obtain ⟨hg, hq⟩ := bif_some h
        clear h
        simp only [Bool.and_eq_true] at hg
        have g1 := Nat.le_of_ble_eq_true hg.1
        have g2 := Nat.le_of_ble_eq_true hg.2
        split at hq
        · rename_i m hm
          obtain ⟨he2, hq2⟩ := bif_some hq
          clear hq
          have he2 := Nat.eq_of_beq_eq_true he2
          subst he2
          cases hq2
          have b1 := bound_ok he hlo hl
          obtain ⟨kh, hkh⟩ := nat?_some (show nat? (hi'.ev e) = some m from hh')
          obtain ⟨km, hkm⟩ := nat?_some hm
          have r1 := x_rep he hhi
          have r2 := x_rep he hmx
          rw [hkh] at r1; rw [hkm] at r2
          generalize hp1 : a.eval hi = p1 at r1
          generalize hp2 : a.eval mx = p2 at r2
          cases r1; cases r2
          have m0 : m = 0 := by omega
          subst m0
          have l0 : l = 0 := by omega
          subst l0
          generalize hpx : a.eval x = px at rx
          cases rx
          have hrun := run_sliceM (w := w) ht hi0 (b := none) (len := 0) (cap := 0) (kh := kh) (km := km) b1 g1 (Nat.le_refl 0) (Nat.le_refl 0)
          exact step_pure hr (u := .slice none 0 0) (by simp only [execOp, ho, hpx, Sem.run_bind, Option.map_some, hp1, hp2, hrun, Result.andThen_ok, Sem.run_pure]; rfl) .snil
        · cases hq
      · cases h
    | vw n l h2 => exact absurd hxe (hne n l h2)
    | _ => rw [hxe] at h; simp [sub, slen] at h

theorem ba_extract {b : S} (hb : b.Ok) {l h : Nat} (h1 : l ≤ h) (h2 : h ≤ b.n) : b.toBA.extract l h = (b.ext l h).toBA := by
  apply S.ba_ext
  rw [S.toBA_list, S.toList_ext hb h1 h2, ByteArray.data_extract, Array.toList_extract, S.toBA_list, List.extract_eq_take_drop, ← List.map_drop, ← List.map_take, List.drop_take]

theorem k_subs (hr : Rel ι s w) (he : REnv d ι (Mut ι s) w e a.tmps) {t : TypeId} {x : Operand} {x' : X} {lo hi : Option Operand} {lo' hi' : Option X} (ho : o.op = .slice t x lo hi none) (hx : xOf x = some x')
    (hlo : xo lo = some lo') (hhi : xo hi = some hi') (ht : P.underlying t = some .string) (h : oSubs e s lo' hi' (x'.ev e) = .ok v s') : StepOk ((execOp a.eval o).run P w) ι s w v s' := by
  have rx := x_rep he hx
  unfold oSubs at h
  split at h
  · rename_i b hxe
    rw [hxe] at rx
    unfold oSubs2 at h
    split at h
    · rename_i l hh hl hh'
      obtain ⟨hg, h⟩ := bif_out h
      obtain ⟨rfl, rfl⟩ := ok_inj h
      simp only [Bool.and_eq_true] at hg
      have g1 := Nat.le_of_ble_eq_true hg.1
      have g2 := Nat.le_of_ble_eq_true hg.2
      have b1 := bound_ok he hlo hl
      have b2 := bound_ok he hhi hh'
      generalize hp : a.eval x = p at rx
      cases rx with
      | str _ hok =>
      refine step_pure hr (u := .string (b.ext l hh).toBA) ?_ (.str _ (S.ext_ok hok g1 g2))
      rw [← ba_extract hok g1 g2]
      have hsz := S.toBA_size b
      have hall : b.toBA.extract 0 b.n = b.toBA := by rw [← hsz]; exact ByteArray.extract_zero_size
      rcases b1 with ⟨q1, rfl⟩ | ⟨kl, q1⟩ <;> rcases b2 with ⟨q2, rfl⟩ | ⟨kh, q2⟩ <;>
        simp [execOp, ho, hp, q1, q2, Instr.sliceAt, Instr.slice, Instr.sliceBounds, run_underlying ht, run_sliceBoundN, g1, g2, hsz, hall]
    · cases h
  · cases h
end ops
end Go.Hx

/- One operation: append, on the model's side. -/
namespace Go.Hx
set_option autoImplicit false

section ops
variable {P : Program} {ι : Nm} {s s' : St} {w w' : World} {e : Env} {a : Act} {d : Nat} {o : Oper} {v : AV}

/-- What is appended: so many elements, these cells. -/
structure Src (P : Program) (w : World) (ts : Array TypeId) (xv : Value) (i : TypeInfo) (n : Nat) (news : List Value) : Prop where
  len : news.length = n * i.size
  src : ∃ u, ts[1]? = some u ∧ (P.underlying u = some .string ∨ ∃ el, P.underlying u = some (.slice el))
  lenOf : ∀ w0, (Builtin.lenOf xv).run P w0 = .ok n w0
  first : ∀ w0 : World, w0.heap = w.heap → (Builtin.firstCells i.size n xv).run P w0 = .ok news.toArray w0

theorem app_none {ts : Array TypeId} {t el ty : TypeId} {i : TypeInfo} {xv : Value} {news : List Value} (h0 : ts[0]? = some t) (ht : P.underlying t = some (.slice el)) (hi : P.info? el = some i)
    (hs : Src P w ts xv i 0 news) : (Builtin.append_ ts ty #[.slice none 0 0, xv]).run P w = .ok (.slice none 0 0) w := by
  have h4 := hs.lenOf
  have h5 := hs.first w rfl
  rcases hs.src with ⟨u, h1, h2 | ⟨el', h2⟩⟩ <;> simp [Builtin.append_, h0, h1, run_underlying ht, run_underlying h2, rsize hi, h4, h5]

theorem app_room {ts : Array TypeId} {t el ty : TypeId} {i : TypeInfo} {xv : Value} {n : Nat} {news : List Value} (h0 : ts[0]? = some t) (ht : P.underlying t = some (.slice el)) (hi : P.info? el = some i)
    (hs : Src P w ts xv i n news) {g : Addr} {sLen sCap : Nat} (hroom : sLen + n ≤ sCap)
    (hst : (storeCells (g.add (sLen * i.size)) news).run P w = .ok () w') : (Builtin.append_ ts ty #[.slice (some g) sLen sCap, xv]).run P w = .ok (.slice (some g) (sLen + n) sCap) w' := by
  have h4 := hs.lenOf
  have h5 := hs.first w rfl
  rcases hs.src with ⟨u, h1, h2 | ⟨el', h2⟩⟩ <;> simp [Builtin.append_, h0, h1, run_underlying ht, run_underlying h2, rsize hi, h4, h5, hroom, hst]

theorem app_grow {ts : Array TypeId} {t el ty : TypeId} {i : TypeInfo} {z xv : Value} {n : Nat} {news : List Value} (h0 : ts[0]? = some t) (ht : P.underlying t = some (.slice el)) (hi : P.info? el = some i) (hz : i.zero = some z)
    (hs : Src P w ts xv i n news) {b : Option Addr} {sLen sCap : Nat} {olds : List Value} (hroom : sCap < sLen + n) (hold : (Builtin.firstCells i.size sLen (.slice b sLen sCap)).run P w.drew = .ok olds.toArray w.drew)
    (hby : 0 < i.bytes) (h48 : (sLen + n) * i.bytes ≤ 140737488355328) : (Builtin.append_ ts ty #[.slice b sLen sCap, xv]).run P w =
      .ok (.slice (some ⟨w.heap.size, 0, none⟩) (sLen + n) (grownCap w (sLen + n) sCap el)) (w.drew.alloc (.cells (olds.toArray ++ news.toArray ++ Builtin.zeroCells z.cells (grownCap w (sLen + n) sCap el - (sLen + n))) el)) := by
  have hnr : ¬ (sLen + n ≤ sCap) := by omega
  have hsm : sLen + n ≤ 140737488355328 := Nat.le_trans (Nat.le_mul_of_pos_right _ hby) h48
  have h63' : ¬ (9223372036854775807 < ((sLen : Int) + (n : Int))) := by omega
  have h48' : ¬ (281474976710656 < Builtin.nextslicecap (sLen + n) sCap * i.bytes) := by have := growslice_fits hroom h48; omega
  have h4 := hs.lenOf
  have h5 := hs.first w.drew rfl
  rcases hs.src with ⟨u, h1, h2 | ⟨el', h2⟩⟩
  · simp [Builtin.append_, h0, h1, run_underlying ht, run_underlying h2, sizeOf, typeInfo, zeroValue, hi, hz, h4, hnr, h63', h48', h5, hold, Question.forced, newRow, grownCap]
    congr 2
    apply Array.ext'
    simp [List.append_assoc]
  · simp [Builtin.append_, h0, h1, run_underlying ht, run_underlying h2, sizeOf, typeInfo, zeroValue, hi, hz, h4, hnr, h63', h48', h5, hold, Question.forced, newRow, grownCap]
    congr 2
    apply Array.ext'
    simp [List.append_assoc]

/-- Where a row stands behind an append, what it holds. -/
structure Grown (w w' : World) (g : Nat) (l' : Loc) (u : Value) (el n sz : Nat) (cells : List Value) : Prop where
  same : Same w w'
  size : w.heap.size ≤ w'.heap.size
  keep : ∀ k, k < w.heap.size → k ≠ g → w'.heap[k]? = w.heap[k]?
  blk : l'.blk = g ∨ w.heap.size ≤ l'.blk
  sz : l'.sz = sz
  cap : n ≤ l'.cap
  val : u = .slice (some ⟨l'.blk, 0, none⟩) n l'.cap
  arr : ∃ (arr : Array Value) (fz : Nat × Nat), w'.heap[l'.blk]? = some (.cells arr el fz) ∧ arr.size = l'.cap * l'.sz ∧ arr.toList.take cells.length = cells ∧ (fz = (0, 0) ∨ arr.size ≤ fz.1)

theorem zeroCells_size (z : Array Value) (n : Nat) : (Builtin.zeroCells z n).size = n * z.size := by simp [Builtin.zeroCells]

/-- A new row. -/
theorem app_new {ts : Array TypeId} {t el ty : TypeId} {i : TypeInfo} {z xv : Value} {n : Nat} {news : List Value} (g : Nat) (h0 : ts[0]? = some t) (ht : P.underlying t = some (.slice el)) (hi : P.info? el = some i) (hz : i.zero = some z)
    (hzs : z.cells.size = i.size) (hs : Src P w ts xv i n news) {b : Option Addr} {sLen sCap : Nat} {olds : List Value} (hroom : sCap < sLen + n) (hlo : olds.length = sLen * i.size)
    (hold : (Builtin.firstCells i.size sLen (.slice b sLen sCap)).run P w.drew = .ok olds.toArray w.drew)
    (hby : 0 < i.bytes) (h48 : (sLen + n) * i.bytes ≤ 140737488355328) :
    ∃ u w' l', (Builtin.append_ ts ty #[.slice b sLen sCap, xv]).run P w = .ok u w' ∧ Grown w w' g l' u el (sLen + n) i.size (olds ++ news) ∧ w.heap.size ≤ l'.blk := by
  refine ⟨_, _, ⟨w.heap.size, grownCap w (sLen + n) sCap el, i.size⟩, app_grow h0 ht hi hz hs hroom hold hby h48, ?_, Nat.le_refl _⟩
  have hcap := grownCap_ge w (sLen + n) sCap el
  refine ⟨⟨rfl, rfl, rfl⟩, by simp, fun k hk _ => keep_alloc w.drew _ k hk, .inr (Nat.le_refl _), rfl, hcap, rfl, _, (0, 0), new_alloc w.drew _, ?_, ?_, .inl rfl⟩
  · simp only [Array.size_append, List.size_toArray, zeroCells_size, hzs, hlo, hs.len, ← Nat.add_mul]
    congr 1; omega
  · simp only [Array.toList_append, List.append_assoc]
    rw [← List.append_assoc]
    exact List.take_left

theorem take_app {olds news rest : List Value} : (olds ++ news ++ rest).take (olds ++ news).length = olds ++ news := List.take_left

/-- A row that may turn. -/
theorem app_row {ts : Array TypeId} {t el ty : TypeId} {i : TypeInfo} {z xv : Value} {n : Nat} {news : List Value} (h0 : ts[0]? = some t) (ht : P.underlying t = some (.slice el)) (hi : P.info? el = some i) (hz : i.zero = some z)
    (hzs : z.cells.size = i.size) (hs : Src P w ts xv i n news) (hone : ∀ u ∈ news, u.oneCell' = true) {l : Loc} {hi' : Nat} {arr : Array Value} {fz : Nat × Nat} (hb : w.heap[l.blk]? = some (.cells arr el fz)) (hsz : arr.size = l.cap * l.sz) (hls : l.sz = i.size)
    (hfz : fz = (0, 0) ∨ arr.size ≤ fz.1) (hle : hi' ≤ l.cap) (hby : 0 < i.bytes) (h48 : (hi' + n) * i.bytes ≤ 140737488355328) :
    ∃ u w' l', (Builtin.append_ ts ty #[.slice (some ⟨l.blk, 0, none⟩) hi' l.cap, xv]).run P w = .ok u w' ∧ Grown w w' l.blk l' u el (hi' + n) i.size (arr.toList.take (hi' * i.size) ++ news) := by
  have hol : (arr.toList.take (hi' * i.size)).length = hi' * i.size := by
    rw [List.length_take, Array.length_toList, hsz, hls, Nat.min_eq_left (Nat.mul_le_mul_right _ hle)]
  by_cases hroom : hi' + n ≤ l.cap
  · have hfit : hi' * i.size + news.length ≤ arr.size := by rw [hs.len, hsz, hls, ← Nat.add_mul]; exact Nat.mul_le_mul_right _ hroom
    have hst := run_storeN (P := P) l.blk (hi' * i.size) el fz news 0 arr w hb (fun j _ h2 h => by rcases hfz with rfl | hfz <;> simp at * <;> omega) hfit hone
    simp only [Nat.add_zero] at hst
    have hrun := app_room (ty := ty) h0 ht hi hs (g := ⟨l.blk, 0, none⟩) (sLen := hi') hroom (by rw [add_lit, Nat.zero_add]; exact hst)
    have hsz2 : (arr.toList.take (hi' * i.size) ++ news ++ arr.toList.drop (hi' * i.size + news.length)).toArray.size = arr.size := by
      simp only [List.size_toArray, List.length_append, List.length_drop, hol, Array.length_toList]; omega
    refine ⟨_, _, l, hrun, ⟨rfl, rfl, rfl⟩, by rw [size_setRow]; exact Nat.le_refl _, fun k _ hk => setRow_other w _ k _ hk, .inl rfl, hls, hroom, rfl, _, fz, setRow_heap w _ _ _ _ _ hb, hsz2.trans hsz, ?_, by rw [hsz2]; exact hfz⟩
    exact take_app
  · have hcell : ∀ (k : Nat) (u : Value), (arr.toList.take (hi' * i.size))[k]? = some u → w.drew.cell? ((⟨l.blk, 0, none⟩ : Addr).add k) = some u := fun k u hu => by
      rw [cell_at (w := w.drew) hb]
      rw [List.getElem?_take] at hu
      split at hu
      · simpa using hu
      · cases hu
    have hold := run_firstCells_some (P := P) w.drew i.size hi' ⟨l.blk, 0, none⟩ hi' l.cap _ hol hcell
    obtain ⟨u, w', l', h1, h2, _⟩ := app_new (P := P) (ty := ty) l.blk h0 ht hi hz hzs hs (by omega) hol hold hby h48
    exact ⟨u, w', l', h1, h2⟩
end ops
end Go.Hx

/- One operation: append, copy, clear, texts out of rows, pointers as unsafe ones. -/
namespace Go.Hx
set_option autoImplicit false

section ops
variable {P : Program} {ι : Nm} {s s' : St} {w w' : World} {e : Env} {a : Act} {d : Nat} {o : Oper} {v : AV}

/-- A new name for what has grown: a row. -/
theorem grown_row (hr : Rel ι s w) {n m : Nat} {b : Blk} {l l' : Loc} {u : Value} {t sz : Nat} {cs : List AV} {cells : List Value} (hn : s.get n = some b) (hl : ι n = some l) (hG : Grown w w' l.blk l' u t m sz cells)
    (hrep : Reps ι (Mut ι s) w cs cells) :
    Rel (ι.put s.nm l') ((s.put n none).add (.row 0 t sz cs)) w' ∧ Nxt ι s w (ι.put s.nm l') ((s.put n none).add (.row 0 t sz cs)) w' ∧
      Rep (ι.put s.nm l') (Mut (ι.put s.nm l') ((s.put n none).add (.row 0 t sz cs))) w' (.vw s.nm 0 m) u := by
  have hN := nxt_mv (b' := .row 0 t sz cs) hr hn hl hG.blk hG.same hG.size hG.keep
  obtain ⟨arr, fz, g1, g2, g3, g4⟩ := hG.arr
  have hlen := hrep.len
  refine ⟨rel_mv hr hn hl hG.blk hN hG.keep ?_, hN, ?_⟩
  · have hrow : Reps (ι.put s.nm l') (Mut (ι.put s.nm l') ((s.put n none).add (.row 0 t sz cs))) w' cs (arr.toList.take cs.length) := by rw [← hlen, g3]; exact hrep.mono hN
    have hle : cs.length ≤ arr.size := by rw [← hlen, ← g3, List.length_take, Array.length_toList]; exact Nat.min_le_right _ _
    have := BRel.row (ι := ι.put s.nm l') 0 t cs l' arr fz g1 g2 hle hrow g4
    rwa [hG.sz] at this
  · rw [hG.val]
    exact .vw _ _ _ _ _ l' _ (Nm.put_self _ _ _) (Nat.zero_le _) hG.cap rfl hG.cap (fun _ => by simp) (fun _ => ⟨rfl, rfl⟩)
theorem grown_bytes (hr : Rel ι s w) {n m : Nat} {b : Blk} {l l' : Loc} {u : Value} {t : Nat} {c : S} {cells : List Value} (hn : s.get n = some b) (hl : ι n = some l) (hG : Grown w w' l.blk l' u t m 1 cells)
    (hok : c.Ok) (hc : cells = c.toList.map (fun b => Value.int .u8 (b : Nat))) (hm : m = c.n) :
    Rel (ι.put s.nm l') ((s.put n none).add (.bytes 0 t c)) w' ∧ Nxt ι s w (ι.put s.nm l') ((s.put n none).add (.bytes 0 t c)) w' ∧
      Rep (ι.put s.nm l') (Mut (ι.put s.nm l') ((s.put n none).add (.bytes 0 t c))) w' (.vw s.nm 0 m) u := by
  have hN := nxt_mv (b' := .bytes 0 t c) hr hn hl hG.blk hG.same hG.size hG.keep
  obtain ⟨arr, fz, g1, g2, g3, g4⟩ := hG.arr
  have hlen : cells.length = c.n := by rw [hc, List.length_map, S.toList_length]
  have hcap := hG.cap
  have hsz := hG.sz
  refine ⟨rel_mv hr hn hl hG.blk hN hG.keep ?_, hN, ?_⟩
  · refine .bytes 0 t c l' arr fz g1 (by rw [g2, hsz, Nat.mul_one]) hsz hok ?_ ?_ g4
    · rw [g2, hsz, Nat.mul_one]; omega
    · rw [← hlen, g3, hc]
  · rw [hG.val]
    exact .vw _ _ _ _ _ l' _ (Nm.put_self _ _ _) (Nat.zero_le _) hG.cap rfl hG.cap (fun _ => by simp) (fun _ => ⟨rfl, rfl⟩)
/-- A first name for what has been made: a row, a text's bytes. -/
theorem made_row (hr : Rel ι s w) {m : Nat} {g : Nat} {l' : Loc} {u : Value} {t sz : Nat} {cs : List AV} {cells : List Value} (hG : Grown w w' g l' u t m sz cells) (hbl : w.heap.size ≤ l'.blk) (hg : w.heap.size ≤ g)
    (hrep : Reps ι (Mut ι s) w cs cells) :
    Rel (ι.put s.nm l') (s.add (.row 0 t sz cs)) w' ∧ Nxt ι s w (ι.put s.nm l') (s.add (.row 0 t sz cs)) w' ∧
      Rep (ι.put s.nm l') (Mut (ι.put s.nm l') (s.add (.row 0 t sz cs))) w' (.vw s.nm 0 m) u := by
  have hk : ∀ k, k < w.heap.size → w'.heap[k]? = w.heap[k]? := fun k hk => hG.keep k hk (by omega)
  have hN := nxt_add (b := .row 0 t sz cs) hr hbl hG.same hG.size hk
  obtain ⟨arr, fz, g1, g2, g3, g4⟩ := hG.arr
  have hlen := hrep.len
  refine ⟨rel_add hr hbl hN hk ?_, hN, ?_⟩
  · have hrow : Reps (ι.put s.nm l') (Mut (ι.put s.nm l') (s.add (.row 0 t sz cs))) w' cs (arr.toList.take cs.length) := by rw [← hlen, g3]; exact hrep.mono hN
    have hle : cs.length ≤ arr.size := by rw [← hlen, ← g3, List.length_take, Array.length_toList]; exact Nat.min_le_right _ _
    have := BRel.row (ι := ι.put s.nm l') 0 t cs l' arr fz g1 g2 hle hrow g4
    rwa [hG.sz] at this
  · rw [hG.val]
    exact .vw _ _ _ _ _ l' _ (Nm.put_self _ _ _) (Nat.zero_le _) hG.cap rfl hG.cap (fun _ => by simp) (fun _ => ⟨rfl, rfl⟩)
theorem made_bytes (hr : Rel ι s w) {m : Nat} {g : Nat} {l' : Loc} {u : Value} {t : Nat} {c : S} {cells : List Value} (hG : Grown w w' g l' u t m 1 cells) (hbl : w.heap.size ≤ l'.blk) (hg : w.heap.size ≤ g)
    (hok : c.Ok) (hc : cells = c.toList.map (fun b => Value.int .u8 (b : Nat))) (hm : m = c.n) :
    Rel (ι.put s.nm l') (s.add (.bytes 0 t c)) w' ∧ Nxt ι s w (ι.put s.nm l') (s.add (.bytes 0 t c)) w' ∧
      Rep (ι.put s.nm l') (Mut (ι.put s.nm l') (s.add (.bytes 0 t c))) w' (.vw s.nm 0 m) u := by
  have hk : ∀ k, k < w.heap.size → w'.heap[k]? = w.heap[k]? := fun k hk => hG.keep k hk (by omega)
  have hN := nxt_add (b := .bytes 0 t c) hr hbl hG.same hG.size hk
  obtain ⟨arr, fz, g1, g2, g3, g4⟩ := hG.arr
  have hlen : cells.length = c.n := by rw [hc, List.length_map, S.toList_length]
  have hcap := hG.cap
  have hsz := hG.sz
  refine ⟨rel_add hr hbl hN hk ?_, hN, ?_⟩
  · refine .bytes 0 t c l' arr fz g1 (by rw [g2, hsz, Nat.mul_one]) hsz hok ?_ ?_ g4
    · rw [g2, hsz, Nat.mul_one]; omega
    · rw [← hlen, g3, hc]
  · rw [hG.val]
    exact .vw _ _ _ _ _ l' _ (Nm.put_self _ _ _) (Nat.zero_le _) hG.cap rfl hG.cap (fun _ => by simp) (fun _ => ⟨rfl, rfl⟩)

/-- What an append of elements comes to. -/
theorem appL_ok (hr : Rel ι s w) {ts : Array TypeId} {t el ty : TypeId} {i : TypeInfo} {z : Value} {x : AV} {p q : Value} {ys : List AV} {news : List Value} {yb : Option S} (h0 : ts[0]? = some t) (ht : P.underlying t = some (.slice el)) (hi : P.info? el = some i) (hz : i.zero = some z)
    (hzs : z.cells.size = i.size) (hs0 : 0 < i.size) (hby : 0 < i.bytes) (hx : Rep ι (Mut ι s) w x p) (hs : Src P w ts q i ys.length news) (hys : Reps ι (Mut ι s) w (cellsOf ys) news) (hfl : flats (cellsOf ys) = true)
    (hyb : ∀ c, yb = some c → c.Ok ∧ (c.n = ys.length → i.size = 1 → news = c.toList.map (fun b => Value.int .u8 (b : Nat))))
    (h : appL s el i.size i.bytes x ys yb = some (v, s')) :
    ∃ u w' ι', (Builtin.append_ ts ty #[p, q]).run P w = .ok u w' ∧ Rel ι' s' w' ∧ Nxt ι s w ι' s' w' ∧ Rep ι' (Mut ι' s') w' v u := by
  have hone := flats_one hfl hys
  unfold appL at h
  split at h
  · -- nil
    cases hx
    cases hn : Nat.beq ys.length 0 with
    | true =>
      rw [hn] at h
      cases h
      have hn := Nat.eq_of_beq_eq_true hn
      rw [hn] at hs
      exact ⟨_, w, ι, app_none h0 ht hi hs, hr, Nxt.refl _ _ _, .snil⟩
    | false =>
      rw [hn] at h
      obtain ⟨hle, h⟩ := bif_some h
      cases h
      have hle := Nat.le_of_ble_eq_true hle
      have hn0 : ys.length ≠ 0 := fun hh => by rw [hh] at hn; cases hn
      obtain ⟨u, w', l', q1, q2, q3⟩ := app_new (P := P) (ty := ty) (b := none) (sLen := 0) (sCap := 0) (olds := []) w.heap.size h0 ht hi hz hzs hs (by omega) (by simp)
        (run_firstCells_none w.drew i.size 0 0 0) hby (by rw [Nat.zero_add]; exact hle)
      rw [Nat.zero_add, List.nil_append] at q2
      obtain ⟨r1, r2, r3⟩ := made_row hr q2 q3 (Nat.le_refl _) hys
      exact ⟨u, w', _, q1, r1, r2, r3⟩
  · -- elements that stay, no room behind
    rename_i xs
    cases hn : Nat.beq ys.length 0 with
    | true =>
      rw [hn] at h
      cases h
      have hn := Nat.eq_of_beq_eq_true hn
      rw [hn] at hs
      have hnil : news = [] := List.length_eq_zero_iff.1 (by rw [hs.len]; simp)
      subst hnil
      have hx' := hx
      cases hx with
      | sl _ _ ad n cap sz us e0 e1 e2 e3 e4 e5 e6 e7 =>
      exact ⟨_, w, ι, app_room (n := 0) h0 ht hi hs (by omega) rfl, hr, Nxt.refl _ _ _, hx'⟩
    | false =>
      rw [hn] at h
      obtain ⟨hle, h⟩ := bif_some h
      cases h
      simp only [Bool.and_eq_true] at hle
      have hsz := hle.2
      have hle := Nat.le_of_ble_eq_true hle.1
      have hn0 : ys.length ≠ 0 := fun hh => by rw [hh] at hn; cases hn
      cases hx with
      | sl _ _ ad n cap sz us e0 e1 e2 e3 e4 e5 e6 e7 =>
      have hcap := e7 rfl
      subst hcap
      subst e0
      have hlo : us.length = xs.length * i.size := by
        rw [e1]
        cases xs with
        | nil => simp
        | cons x xs =>
          have q1 := e2 x List.mem_cons_self
          have q2 := Nat.eq_of_beq_eq_true hsz
          rw [← q1, q2]
      have hold := run_firstCells_some (P := P) w.drew i.size xs.length ad xs.length xs.length us hlo (fun j u hu => e4 j u hu)
      obtain ⟨u, w', l', q1, q2, q3⟩ := app_new (P := P) (ty := ty) (b := some ad) (sLen := xs.length) (sCap := xs.length) w.heap.size h0 ht hi hz hzs hs (by omega) hlo hold hby hle
      have hxrep : Reps ι (Mut ι s) w (cellsOf xs) us := ⟨by rw [e1, cellsOf_len e2], e5⟩
      obtain ⟨r1, r2, r3⟩ := made_row hr q2 q3 (Nat.le_refl _) (reps_append hxrep hys)
      exact ⟨u, w', _, q1, r1, r2, r3⟩
  · -- a row
    rename_i m lo hi'
    obtain ⟨hg, hq⟩ := bif_some h
    clear h
    simp only [Bool.and_eq_true] at hg
    have hlo := Nat.eq_of_beq_eq_true hg.1
    have hle := Nat.le_of_ble_eq_true hg.2
    subst hlo
    cases hx with
    | vw _ _ _ _ _ l ad e1 e2 e3 e4 e5 e6 e7 =>
    obtain ⟨q1, q2⟩ := e7 rfl
    subst q1; subst q2
    simp only [Nat.sub_zero] at e4
    subst e4
    split at hq
    · rename_i ver t' sz' cs hb
      obtain ⟨hc, hq2⟩ := bif_some hq
      clear hq
      cases hq2
      simp only [Bool.and_eq_true] at hc
      have c1 := Nat.le_of_ble_eq_true hc.1.1
      have c2 := Nat.eq_of_beq_eq_true hc.1.2
      have c3 := Nat.eq_of_beq_eq_true hc.2
      subst c3; subst c2
      have hbr := hr.at_ hb e1
      generalize hisz : i.size = isz at hbr
      cases hbr with
      | row _ _ _ _ arr fz f1 f2 f3 f4 f5 =>
      obtain ⟨u, w', l', r1, r2⟩ := app_row (P := P) (ty := ty) h0 ht hi hz hzs hs hone f1 f2 hisz.symm f5 e3 hby hle
      have hcs : Reps ι (Mut ι s) w (cs.take (hi' * i.size) ++ cellsOf ys) (arr.toList.take (hi' * i.size) ++ news) := by
        refine reps_append ?_ hys
        have := reps_take f4 (hi' * i.size)
        rwa [List.take_take, Nat.min_eq_left c1] at this
      obtain ⟨g1, g2, g3⟩ := grown_row hr hb e1 r2 hcs
      rw [hisz] at g1 g2 g3
      exact ⟨u, w', _, r1, g1, g2, g3⟩
    · rename_i ver t' b hb
      split at hq
      · rename_i c
        obtain ⟨hc, hq2⟩ := bif_some hq
        clear hq
        cases hq2
        simp only [Bool.and_eq_true] at hc
        have c1 := Nat.le_of_ble_eq_true hc.1.1.1
        have c2 := Nat.eq_of_beq_eq_true hc.1.1.2
        have c3 := Nat.eq_of_beq_eq_true hc.1.2
        have c4 := Nat.eq_of_beq_eq_true hc.2
        subst c3
        obtain ⟨hcok, hcn⟩ := hyb c rfl
        have hcn := hcn c4 c2
        have hbr := hr.at_ hb e1
        cases hbr with
        | bytes _ _ _ _ arr fz f1 f2 f3 f4 f5 f6 f7 =>
        obtain ⟨u, w', l', r1, r2⟩ := app_row (P := P) (ty := ty) h0 ht hi hz hzs hs hone f1 (by rw [f2, f3, Nat.mul_one]) (f3.trans c2.symm) f7 e3 hby hle
        have hexok := S.ext_ok f4 (Nat.zero_le hi') c1
        rw [c2] at r2
        have hcells : arr.toList.take (hi' * 1) ++ news = ((b.ext 0 hi').app c).toList.map (fun b => Value.int .u8 (b : Nat)) := by
          rw [S.toList_app hexok hcok, S.toList_ext f4 (Nat.zero_le _) c1, List.map_append, hcn, List.drop_zero, List.map_take, ← f6, List.take_take, Nat.min_eq_left c1, Nat.mul_one]
        obtain ⟨g1, g2, g3⟩ := grown_bytes hr hb e1 r2 (S.app_ok hexok hcok) hcells (by simp [S.app, S.ext, c4])
        refine ⟨u, w', _, r1, g1, g2, ?_⟩
        rw [← c4] at g3
        exact g3
      · cases hq
    · cases hq
  · cases h
end ops
end Go.Hx

/- One operation: append, copy, clear, texts out of rows, pointers as unsafe ones (2). -/
namespace Go.Hx
set_option autoImplicit false

section ops
variable {P : Program} {ι : Nm} {s s' : St} {w w' : World} {e : Env} {a : Act} {d : Nat} {o : Oper} {v : AV}

theorem oPair_ok {r : Option (AV × St)} (h : oPair r = .ok v s') : r = some (v, s') := by
  cases r with
  | none => cases h
  | some p => obtain ⟨x, y⟩ := p; cases h; rfl

theorem els_len {M : Nat → Prop} {xs : List AV} {u : Value} {b : Option Addr} {c sz size : Nat} {us : List Value} (hE : Els ι M w xs u b c sz us) (hs : szOk size xs = true) : us.length = xs.length * size := by
  rw [hE.len]
  cases xs with
  | nil => simp
  | cons x xs =>
    have q1 := hE.size x List.mem_cons_self
    have q2 := Nat.eq_of_beq_eq_true hs
    rw [← q1, q2]
theorem els_first {M : Nat → Prop} {xs : List AV} {u : Value} {b : Option Addr} {c sz size : Nat} {us : List Value} (hE : Els ι M w xs u b c sz us) (hs : szOk size xs = true) (n : Nat) (hn : n ≤ xs.length) (w0 : World) (h0 : w0.heap = w.heap) :
    (Builtin.firstCells size n u).run P w0 = .ok (us.take (n * size)).toArray w0 := by
  have hl := els_len hE hs
  rw [hE.val]
  cases b with
  | none =>
    have := hE.none rfl
    subst this
    have hn0 : n = 0 := by simpa using hn
    subst hn0
    simp [Builtin.firstCells]
  | some ad =>
    refine run_firstCells_some (P := P) w0 size n ad xs.length c (us.take (n * size)) ?_ ?_
    · rw [List.length_take, hl]; exact Nat.min_eq_left (Nat.mul_le_mul_right _ hn)
    · intro k u hu
      rw [List.getElem?_take] at hu
      split at hu
      · have := hE.cell ad rfl k u hu
        unfold World.cell? at *
        rw [h0]; exact this
      · cases hu

theorem k_app (hr : Rel ι s w) (he : REnv d ι (Mut ι s) w e a.tmps) {c : Call} {x' y' : X} {t t1 el el' : TypeId} {i : TypeInfo} {z : List AV} (ho : o.op = .call c) (hc : c.callee = .builtin .append) (hx : xsOf c.args.toList = some [x', y'])
    (ht0 : c.argTypes[0]? = some t) (ht1 : c.argTypes[1]? = some t1) (ht : P.underlying t = some (.slice el)) (hu : P.underlying t1 = some (.slice el')) (hi : P.info? el = some i) (hz : zeroOf P el = some z) (hzl : z.length = i.size)
    (hs0 : 0 < i.size) (hby : 0 < i.bytes) (h : oPair (app s el i.size i.bytes (x'.ev e) (y'.ev e)) = .ok v s') : StepOk ((execOp a.eval o).run P w) ι s w v s' := by
  obtain ⟨x, y, hl, hx, hy⟩ := xs_two hx
  obtain ⟨cs, hq⟩ := run_callB (a := a) ho hc (arr_two hl)
  have rx := x_rep he hx
  have ry := x_rep he hy
  obtain ⟨i', zv, z1, z2, z3⟩ := zeroOf_rep (P := P) (ι := ι) (M := Mut ι s) (w := w) hz
  rw [hi] at z1; cases z1
  have hzs : zv.cells.size = i.size := by have := z3.len; rw [Array.length_toList] at this; omega
  have h := oPair_ok h
  unfold app at h
  split at h
  · cases h
  · rename_i ys hys
    obtain ⟨hg, h⟩ := bif_some h
    simp only [Bool.and_eq_true] at hg
    obtain ⟨b, cp, sz, us, hE⟩ := slist_rep hr hys ry
    have hlen := els_len hE hg.1
    have hall : us.take (ys.length * i.size) = us := List.take_of_length_le (by omega)
    have hsrc : Src P w c.argTypes (a.eval y) i ys.length us := by
      refine ⟨hlen, ⟨t1, ht1, .inr ⟨el', hu⟩⟩, fun w0 => by rw [hE.val]; rfl, fun w0 h0 => ?_⟩
      have := els_first (P := P) hE hg.1 ys.length (Nat.le_refl _) w0 h0
      rwa [hall] at this
    have hyb : ∀ c, stext s (y'.ev e) = some c → c.Ok ∧ (c.n = ys.length → i.size = 1 → us = c.toList.map (fun b => Value.int .u8 (b : Nat))) := by
      intro c hc
      obtain ⟨q1, ad, cc, q2, q3, q4⟩ := stext_rep hr hc ry
      refine ⟨q1, fun hcn h1 => ?_⟩
      have hv := hE.val
      rw [q2] at hv
      obtain ⟨e1, e2, e3⟩ : ad = b ∧ c.n = ys.length ∧ cc = cp := by simpa using hv
      subst e1
      rw [h1, Nat.mul_one] at hlen
      cases ad with
      | none =>
        have := q4 rfl
        have e1 : us = [] := List.length_eq_zero_iff.1 (by omega)
        have e2 : c.toList = [] := List.length_eq_zero_iff.1 (by rw [S.toList_length]; exact this)
        rw [e1, e2]; rfl
      | some ad =>
        apply List.ext_getElem?
        intro k
        by_cases hk : k < ys.length
        · have h1 : us[k]? = some (us[k]'(by omega)) := List.getElem?_eq_getElem (by omega)
          have hkl : k < (c.toList.map (fun b => Value.int .u8 (b : Nat))).length := by rw [List.length_map, S.toList_length]; omega
          have h2 : (c.toList.map (fun b => Value.int .u8 (b : Nat)))[k]? = some ((c.toList.map (fun b => Value.int .u8 (b : Nat)))[k]'hkl) := List.getElem?_eq_getElem hkl
          have h3 := hE.cell ad rfl k _ h1
          have h4 := q3 ad rfl k _ h2
          rw [h1, h2]
          rw [h3] at h4; exact h4
        · rw [List.getElem?_eq_none (by omega), List.getElem?_eq_none (by rw [List.length_map, S.toList_length]; omega)]
    obtain ⟨u, w', ι', q1, q2, q3, q4⟩ := appL_ok (ty := o.type) hr ht0 ht hi z2 hzs hs0 hby rx hsrc hE.rep hg.2 hyb h
    rw [hq]
    exact stepB (r := Builtin.append_ c.argTypes o.type #[a.eval x, a.eval y]) (by simp [builtin]) q1 q2 q3 q4

theorem strCells_toBA (c : S) : Lib.strCells c.toBA = c.toList.map fun b => Value.int .u8 (b : Nat) := by
  unfold Lib.strCells
  rw [S.toBA_list, List.map_map]
  apply List.map_congr_left
  intro x hx
  have := S.toList_lt c x hx
  simp [Nat.mod_eq_of_lt this]

theorem k_apps (hr : Rel ι s w) (he : REnv d ι (Mut ι s) w e a.tmps) {c : Call} {x' y' : X} {t t1 el : TypeId} {i : TypeInfo} {z : List AV} (ho : o.op = .call c) (hc : c.callee = .builtin .append) (hx : xsOf c.args.toList = some [x', y'])
    (ht0 : c.argTypes[0]? = some t) (ht1 : c.argTypes[1]? = some t1) (ht : P.underlying t = some (.slice el)) (hu : P.underlying t1 = some .string) (hi : P.info? el = some i) (hz : zeroOf P el = some z) (hzl : z.length = i.size)
    (hs0 : i.size = 1) (hby : i.bytes = 1) (h : oApps s el (x'.ev e) (y'.ev e) = .ok v s') : StepOk ((execOp a.eval o).run P w) ι s w v s' := by
  obtain ⟨x, y, hl, hx, hy⟩ := xs_two hx
  obtain ⟨cs, hq⟩ := run_callB (a := a) ho hc (arr_two hl)
  have rx := x_rep he hx
  have ry := x_rep he hy
  obtain ⟨i', zv, z1, z2, z3⟩ := zeroOf_rep (P := P) (ι := ι) (M := Mut ι s) (w := w) hz
  rw [hi] at z1; cases z1
  have hzs : zv.cells.size = i.size := by have := z3.len; rw [Array.length_toList] at this; omega
  rw [hq]
  suffices hfin : ∃ u w' ι', (Builtin.append_ c.argTypes o.type #[a.eval x, a.eval y]).run P w = .ok u w' ∧ Rel ι' s' w' ∧ Nxt ι s w ι' s' w' ∧ Rep ι' (Mut ι' s') w' v u by
    obtain ⟨u, w', ι', q1, q2, q3, q4⟩ := hfin
    exact stepB (r := Builtin.append_ c.argTypes o.type #[a.eval x, a.eval y]) (by simp [builtin]) q1 q2 q3 q4
  unfold oApps at h
  split at h
  · rename_i zt hye
    rw [hye] at ry
    have h := oPair_ok h
    generalize hp : a.eval y = p at ry
    cases ry with
    | str _ hok =>
    have hsz := S.toBA_size zt
    have hnews := strCells_toBA zt
    have hsrc : Src P w c.argTypes (.string zt.toBA) i zt.n (zt.toList.map fun b => Value.int .u8 (b : Nat)) := by
      refine ⟨by rw [List.length_map, S.toList_length, hs0, Nat.mul_one], ⟨t1, ht1, .inl hu⟩, fun w0 => by simp [Builtin.lenOf, hsz], fun w0 _ => ?_⟩
      have := Lib.run_firstCells_string (P := P) w0 i.size zt.toBA
      rwa [hsz, hnews] at this
    have hone : ∀ u ∈ (zt.toList.map fun b => Value.int .u8 (b : Nat)), u.oneCell' = true := by
      intro u hu
      obtain ⟨b, _, rfl⟩ := List.mem_map.1 hu
      rfl
    unfold apps at h
    split at h
    · rename_i hxe
      rw [hxe] at rx
      generalize a.eval x = q at rx
      cases rx
      cases hn : Nat.beq zt.n 0 with
      | true =>
        rw [hn] at h
        cases h
        have hn := Nat.eq_of_beq_eq_true hn
        rw [hn] at hsrc
        exact ⟨_, w, ι, app_none ht0 ht hi hsrc, hr, Nxt.refl _ _ _, .snil⟩
      | false =>
        rw [hn] at h
        obtain ⟨hle, h⟩ := bif_some h
        cases h
        have hle := Nat.le_of_ble_eq_true hle
        have hn0 : zt.n ≠ 0 := fun hh => by rw [hh] at hn; cases hn
        obtain ⟨u, w', l', q1, q2, q3⟩ := app_new (P := P) (ty := o.type) (b := none) (sLen := 0) (sCap := 0) (olds := []) w.heap.size ht0 ht hi z2 hzs hsrc (by omega) (by simp)
          (run_firstCells_none w.drew i.size 0 0 0) (by omega) (by rw [Nat.zero_add, hby, Nat.mul_one]; exact hle)
        rw [Nat.zero_add, List.nil_append, hs0] at q2
        obtain ⟨r1, r2, r3⟩ := made_bytes hr q2 q3 (Nat.le_refl _) hok rfl rfl
        exact ⟨u, w', _, q1, r1, r2, r3⟩
    · rename_i m lo hi' hxe
      rw [hxe] at rx
      obtain ⟨hg, hq⟩ := bif_some h
      clear h
      simp only [Bool.and_eq_true] at hg
      have hlo := Nat.eq_of_beq_eq_true hg.1
      have hle := Nat.le_of_ble_eq_true hg.2
      subst hlo
      generalize a.eval x = q at rx
      cases rx with
      | vw _ _ _ _ _ l ad e1 e2 e3 e4 e5 e6 e7 =>
      obtain ⟨q1, q2⟩ := e7 rfl
      subst q1; subst q2
      simp only [Nat.sub_zero] at e4
      subst e4
      split at hq
      · rename_i ver t' b hb
        obtain ⟨hc, hq2⟩ := bif_some hq
        clear hq
        cases hq2
        simp only [Bool.and_eq_true] at hc
        have c1 := Nat.le_of_ble_eq_true hc.1
        have c3 := Nat.eq_of_beq_eq_true hc.2
        subst c3
        have hbr := hr.at_ hb e1
        cases hbr with
        | bytes _ _ _ _ arr fz f1 f2 f3 f4 f5 f6 f7 =>
        obtain ⟨u, w', l', r1, r2⟩ := app_row (P := P) (ty := o.type) ht0 ht hi z2 hzs hsrc hone f1 (by rw [f2, f3, Nat.mul_one]) (f3.trans hs0.symm) f7 e3 (by omega) (by rw [hby, Nat.mul_one]; exact hle)
        have hexok := S.ext_ok f4 (Nat.zero_le hi') c1
        rw [hs0] at r2
        have hcells : arr.toList.take (hi' * 1) ++ (zt.toList.map fun b => Value.int .u8 (b : Nat)) = ((b.ext 0 hi').app zt).toList.map (fun b => Value.int .u8 (b : Nat)) := by
          rw [S.toList_app hexok hok, S.toList_ext f4 (Nat.zero_le _) c1, List.map_append, List.drop_zero, List.map_take, ← f6, List.take_take, Nat.min_eq_left c1, Nat.mul_one]
        obtain ⟨g1, g2, g3⟩ := grown_bytes hr hb e1 r2 (S.app_ok hexok hok) hcells (by simp [S.app, S.ext])
        exact ⟨u, w', _, r1, g1, g2, g3⟩
      · cases hq
    · cases h
  · cases h
end ops
end Go.Hx

/- One operation: copy, clear, texts out of rows, pointers as unsafe ones. -/
namespace Go.Hx
set_option autoImplicit false

section ops
variable {P : Program} {ι : Nm} {s s' : St} {w w' : World} {e : Env} {a : Act} {d : Nat} {o : Oper} {v : AV}

theorem zero_cells {z : Value} {sz : Nat} (hz : z.cells.size = sz) (hs : 0 < sz) (n : Nat) : (Builtin.zeroCells z.cells n).toList = (List.replicate n z.cells.toList).flatten := by
  have := made_eq (zc := z.cells) hs hz n
  unfold Builtin.zeroCells
  rw [hz]
  rw [hz] at this
  rw [← this]

theorem k_appz (hr : Rel ι s w) (he : REnv d ι (Mut ι s) w e a.tmps) {c : Call} {x' y' : X} {t t1 el : TypeId} {kn : IntKind} {i : TypeInfo} {z : List AV} (ho : o.op = .call c) (hc : c.callee = .builtin .append) (hx : xsOf c.args.toList = some [x', y'])
    (hts : c.argTypes.toList = [t, t1]) (ht : P.underlying t = some (.slice el)) (hu : P.underlying t1 = some (.int kn)) (hi : P.info? el = some i) (hz : zeroOf P el = some z) (hzl : z.length = i.size)
    (hs0 : 0 < i.size) (h : oAppz s el i.size i.bytes z (x'.ev e) (nat? (y'.ev e)) = .ok v s') : StepOk ((execOp a.eval o).run P w) ι s w v s' := by
  obtain ⟨x, y, hl, hx, hy⟩ := xs_two hx
  obtain ⟨cs, hq⟩ := run_callB (a := a) ho hc (arr_two hl)
  have rx := x_rep he hx
  have ry := x_rep he hy
  have hts : c.argTypes = #[t, t1] := by rw [← Array.toArray_toList (xs := c.argTypes), hts]
  obtain ⟨i', zv, z1, z2, z3⟩ := zeroOf_rep (P := P) (ι := ι) (M := Mut ι s) (w := w) hz
  rw [hi] at z1; cases z1
  have hzs : zv.cells.size = i.size := by have := z3.len; rw [Array.length_toList] at this; omega
  rw [hq, hts]
  unfold oAppz at h
  split at h
  · rename_i n hxe hn
    rw [hxe] at rx
    obtain ⟨k, hk⟩ := nat?_some hn
    rw [hk] at ry
    generalize hp : a.eval x = p at rx
    generalize hq' : a.eval y = q at ry
    cases rx; cases ry
    cases h0 : Nat.beq n 0 with
    | true =>
      rw [h0] at h
      obtain ⟨rfl, rfl⟩ := ok_inj h
      have h0 := Nat.eq_of_beq_eq_true h0
      subst h0
      refine stepB (r := Builtin.append_ #[t, t1] o.type #[a.eval x, a.eval y]) (by simp [builtin]) (u := .slice none 0 0) ?_ hr (Nxt.refl _ _ _) .snil
      rw [hp, hq']
      have hw : IntKind.i64.wrap (0 : Int) = 0 := by rw [IntKind.wrap_i64]; omega
      simp [Builtin.append_, run_underlying ht, run_underlying hu, rsize hi, rinfo hi, asInt, asIntOf, hw]
    | false =>
      rw [h0] at h
      obtain ⟨hg, h⟩ := bif_out h
      obtain ⟨rfl, rfl⟩ := ok_inj h
      simp only [Bool.and_eq_true] at hg
      have g1 := Nat.le_of_ble_eq_true hg.1
      have g2 := Nat.le_of_ble_eq_true hg.2
      have hn0 : n ≠ 0 := fun hh => by rw [hh] at h0; cases h0
      have hrun := Lib.run_append_nil_zeros (P := P) w t t1 o.type el i zv k kn ht hu hi z2 n (by omega) hs0 (by simp only [room] at g1; omega) (Nat.le_trans g2 (by decide))
      have hcap := grownCap_ge w n 0 el
      generalize grownCap w n 0 el = cap at hrun hcap
      have hrl : (repl n z).length = n * i.size := by simp only [repl, List.length_flatten, List.map_replicate, hzl, List.sum_replicate_nat]
      have hzl2 : (Builtin.zeroCells zv.cells n).toList.length = n * i.size := by rw [Array.length_toList]; simp [Builtin.zeroCells, hzs]
      obtain ⟨ι', q1, q2, q3⟩ := new_row hr (w0 := w.drew) rfl ⟨rfl, rfl, rfl⟩ el i.size n cap (cs := repl n z) (arr := Builtin.zeroCells zv.cells n ++ Builtin.zeroCells zv.cells (cap - n))
        (by rw [hrl, Array.toList_append, List.take_left' hzl2, zero_cells hzs hs0 n]; exact reps_repl z3 n)
        (by rw [hrl, Array.size_append, zeroCells_size, hzs]; omega)
        (by rw [Array.size_append, zeroCells_size, zeroCells_size, hzs, ← Nat.add_mul]; congr 1; omega) hcap
      exact stepB (r := Builtin.append_ #[t, t1] o.type #[a.eval x, a.eval y]) (by simp [builtin]) (by rw [hp, hq']; exact hrun) q1 q2 q3
  · cases h

theorem over_ok (hr : Rel ι s w) {sz n c : Nat} {x : AV} {cs : List AV} {us : List Value} {b : Option Addr} (h : over s sz x cs = some s') (hx : Rep ι (Mut ι s) w x (.slice b n c)) (hrep : Reps ι (Mut ι s) w cs us) (hl : us.length ≤ n * sz) :
    (b = none ∧ Rel ι s' w ∧ Nxt ι s w ι s' w) ∨ ∃ ad w', b = some ad ∧ (storeCells ad us).run P w = .ok () w' ∧ Rel ι s' w' ∧ Nxt ι s w ι s' w' := by
  unfold over at h
  obtain ⟨hf, hq⟩ := bif_some h
  clear h
  split at hq
  · cases hq; cases hx
    exact .inl ⟨rfl, hr, Nxt.refl _ _ _⟩
  · rename_i m lo hi
    cases hx with
    | vw _ _ _ _ _ l ad e1 e2 e3 e4 e5 e6 e7 =>
    subst e4
    split at hq
    · rename_i z hz
      obtain ⟨hs, hq2⟩ := bif_some hq
      clear hq
      have hs := Nat.eq_of_beq_eq_true hs
      subst hs
      have hlz := rowSz_ok hr hz e1
      unfold storeRow at hq2
      split at hq2
      · rename_i bl hb
        split at hq2
        · rename_i b' hb'
          cases hq2
          obtain ⟨w', q1, q2, q3⟩ := wr_rep (P := P) hr hb e1 hb' hf hrep
          refine .inr ⟨ad, w', rfl, ?_, q2, q3⟩
          by_cases hlt : lo < hi
          · rw [e6 hlt, hlz]; exact q1
          · have h0 : us = [] := List.length_eq_zero_iff.1 (by
              have : hi - lo = 0 := by omega
              rw [this] at hl; omega)
            subst h0
            exact q1
        · cases hq2
      · cases hq2
    · cases hq
  · cases hq

theorem k_copy (hr : Rel ι s w) (he : REnv d ι (Mut ι s) w e a.tmps) {c : Call} {x' y' : X} {t el : TypeId} {i : TypeInfo} (ho : o.op = .call c) (hc : c.callee = .builtin .copy) (hx : xsOf c.args.toList = some [x', y'])
    (ht0 : c.argTypes[0]? = some t) (ht : P.underlying t = some (.slice el)) (hi : P.info? el = some i)
    (h : oCopy s i.size (x'.ev e) (slen (x'.ev e)) (slist s (y'.ev e)) = .ok v s') : StepOk ((execOp a.eval o).run P w) ι s w v s' := by
  obtain ⟨x, y, hl, hx, hy⟩ := xs_two hx
  obtain ⟨cs, hq⟩ := run_callB (a := a) ho hc (arr_two hl)
  have rx := x_rep he hx
  have ry := x_rep he hy
  unfold oCopy at h
  split at h
  · rename_i n ys hn hys
    obtain ⟨hsz, h⟩ := bif_out h
    unfold oOver at h
    split at h
    · rename_i s1 hov
      obtain ⟨rfl, rfl⟩ := ok_inj h
      obtain ⟨b, cp, hv⟩ := slen_rep hn rx
      obtain ⟨b2, cp2, sz, us, hE⟩ := slist_rep hr hys ry
      have hv2 := hE.val
      have hfc := els_first (P := P) hE hsz (min n ys.length) (Nat.min_le_right _ _) w rfl
      have hlen := els_len hE hsz
      have hrep : Reps ι (Mut ι s) w (cellsOf (ys.take (min n ys.length))) (us.take (min n ys.length * i.size)) := by
        by_cases h0 : ys = []
        · subst h0
          simp at hlen
          subst hlen
          simp [cellsOf]
          exact reps_nil
        · have hss : sz = i.size := by
            cases ys with
            | nil => exact absurd rfl h0
            | cons y0 ys0 =>
              have q1 := hE.size y0 List.mem_cons_self
              have q2 := Nat.eq_of_beq_eq_true hsz
              omega
          subst hss
          rw [cellsOf_take hE.size]
          exact reps_take hE.rep _
      rw [hv] at rx
      have hle : (us.take (min n ys.length * i.size)).length ≤ n * i.size := by
        rw [List.length_take]
        exact Nat.le_trans (Nat.min_le_left _ _) (Nat.mul_le_mul_right _ (Nat.min_le_left _ _))
      have hmin : min ys.length n = min n ys.length := Nat.min_comm _ _
      rw [hv2] at hfc
      rcases over_ok (P := P) hr hov rx hrep hle with ⟨q1, q2, q3⟩ | ⟨ad, w', q1, q2, q3, q4⟩
      · subst q1
        have hrun : (Builtin.copy_ c.argTypes o.type #[a.eval x, a.eval y]).run P w = .ok (goInt (min n ys.length : Nat)) w := by
          rw [hv, hv2]
          simp [Builtin.copy_, ht0, run_underlying ht, Builtin.lenOf, rsize hi, hmin, hfc]
        rw [hq]
        exact stepB (r := Builtin.copy_ c.argTypes o.type #[a.eval x, a.eval y]) (by simp [builtin]) hrun q2 q3 (.int _ _)
      · subst q1
        have hrun : (Builtin.copy_ c.argTypes o.type #[a.eval x, a.eval y]).run P w = .ok (goInt (min n ys.length : Nat)) w' := by
          rw [hv, hv2]
          simp [Builtin.copy_, ht0, run_underlying ht, Builtin.lenOf, rsize hi, hmin, hfc, q2]
        rw [hq]
        exact stepB (r := Builtin.copy_ c.argTypes o.type #[a.eval x, a.eval y]) (by simp [builtin]) hrun q3 q4 (.int _ _)
    · cases h
  · cases h

theorem k_clear (hr : Rel ι s w) (he : REnv d ι (Mut ι s) w e a.tmps) {c : Call} {x' : X} {t el : TypeId} {i : TypeInfo} {z : List AV} (ho : o.op = .call c) (hc : c.callee = .builtin .clear) (hx : xsOf c.args.toList = some [x'])
    (ht0 : c.argTypes[0]? = some t) (ht : P.underlying t = some (.slice el)) (hi : P.info? el = some i) (hz : zeroOf P el = some z) (hzl : z.length = i.size) (hs0 : 0 < i.size)
    (h : oClear s i.size z (x'.ev e) (slen (x'.ev e)) = .ok v s') : StepOk ((execOp a.eval o).run P w) ι s w v s' := by
  obtain ⟨x, hl, hx⟩ := xs_one hx
  obtain ⟨cs, hq⟩ := run_callB (a := a) ho hc (arr_one hl)
  have rx := x_rep he hx
  obtain ⟨i', zv, z1, z2, z3⟩ := zeroOf_rep (P := P) (ι := ι) (M := Mut ι s) (w := w) hz
  rw [hi] at z1; cases z1
  have hzs : zv.cells.size = i.size := by have := z3.len; rw [Array.length_toList] at this; omega
  unfold oClear at h
  split at h
  · rename_i n hn
    cases hov : over s i.size (x'.ev e) (repl n z) with
    | none => rw [hov] at h; cases h
    | some s1 =>
      rw [hov] at h
      obtain ⟨rfl, rfl⟩ := ok_inj h
      obtain ⟨b, cp, hv⟩ := slen_rep hn rx
      rw [hv] at rx
      have hzr := run_zero (P := P) hi z2 w
      have hle : ((List.replicate n zv.cells.toList).flatten).length ≤ n * i.size := by
        simp only [List.length_flatten, List.map_replicate, Array.length_toList, hzs, List.sum_replicate_nat, Nat.le_refl]
      have hzc := zero_cells (z := zv) hzs hs0 n
      rw [hq]
      rcases over_ok (P := P) hr hov rx (reps_repl z3 n) hle with ⟨q1, q2, q3⟩ | ⟨ad, w', q1, q2, q3, q4⟩
      · subst q1
        refine stepB (r := Builtin.clear_ c.argTypes o.type #[a.eval x]) (by simp [builtin]) (u := undef) ?_ q2 q3 rep_undef
        rw [hv]
        simp [Builtin.clear_, ht0, run_underlying ht]; rfl
      · subst q1
        refine stepB (r := Builtin.clear_ c.argTypes o.type #[a.eval x]) (by simp [builtin]) (u := undef) ?_ q3 q4 rep_undef
        rw [hv]
        cases n with
        | zero =>
          have : w' = w := by simp [storeCells] at q2; exact q2.symm
          subst this
          simp [Builtin.clear_, ht0, run_underlying ht]; rfl
        | succ n =>
          simp [Builtin.clear_, ht0, run_underlying ht, hzr, hzc, q2]; rfl
  · cases h

theorem k_sdata (hr : Rel ι s w) (he : REnv d ι (Mut ι s) w e a.tmps) {c : Call} {x' : X} (ho : o.op = .call c) (hc : c.callee = .builtin .unsafeSliceData) (hx : xsOf c.args.toList = some [x'])
    (h : oSdata s (x'.ev e) = .ok v s') : StepOk ((execOp a.eval o).run P w) ι s w v s' := by
  obtain ⟨x, hl, hx⟩ := xs_one hx
  obtain ⟨cs, hq⟩ := run_callB (a := a) ho hc (arr_one hl)
  have rx := x_rep he hx
  rw [hq]
  unfold oSdata at h
  split at h
  · rename_i hv
    obtain ⟨rfl, rfl⟩ := ok_inj h
    rw [hv] at rx
    refine stepB (r := Builtin.unsafeSliceData_ c.argTypes o.type #[a.eval x]) (by simp [builtin]) (u := .pointer none) ?_ hr (Nxt.refl _ _ _) .nil
    generalize a.eval x = p at rx
    cases rx
    rfl
  · rename_i n lo hi hv
    rw [hv] at rx
    obtain ⟨hg, h⟩ := bif_out h
    obtain ⟨rfl, rfl⟩ := ok_inj h
    simp only [Bool.and_eq_true, Nat.blt] at hg
    have g1 := Nat.le_of_ble_eq_true hg.1
    have g2 := Nat.eq_of_beq_eq_true hg.2
    generalize hp : a.eval x = p at rx
    cases rx with
    | vw _ _ _ _ _ l ad e1 e2 e3 e4 e5 e6 e7 =>
    obtain ⟨q1, q2⟩ := e7 g2
    subst q1
    exact stepB (r := Builtin.unsafeSliceData_ c.argTypes o.type #[a.eval x]) (by simp [builtin]) (u := .pointer (some ⟨l.blk, 0, none⟩)) (by rw [hp]; exact Lib.run_unsafeSliceData_row w _ _ _ _ _ (by omega)) hr (Nxt.refl _ _ _) (.ptr _ _ l e1)
  · cases h

theorem freeze_other (w : World) (g n k : Nat) (h : k ≠ g) : (w.freeze ⟨g, 0, none⟩ n).heap[k]? = w.heap[k]? := by
  unfold World.freeze
  split
  · rfl
  · simp [Array.getElem?_modify, Ne.symm h]
theorem freeze_size (w : World) (ad : Addr) (n : Nat) : (w.freeze ad n).heap.size = w.heap.size := by
  unfold World.freeze
  split <;> simp
theorem freeze_same (w : World) (ad : Addr) (n : Nat) : Same w (w.freeze ad n) := by
  unfold World.freeze
  split <;> exact ⟨rfl, rfl, rfl⟩

theorem k_ustr (hr : Rel ι s w) (he : REnv d ι (Mut ι s) w e a.tmps) {c : Call} {x' y' : X} {t0 t1 u : TypeId} (ho : o.op = .call c) (hc : c.callee = .builtin .unsafeString) (hx : xsOf c.args.toList = some [x', y'])
    (hts : c.argTypes.toList = [t0, t1]) (ht : P.underlying t0 = some (.pointer u)) (hs : szOf P u = some 1) (h : oUstr s u (x'.ev e) (y'.ev e) = .ok v s') : StepOk ((execOp a.eval o).run P w) ι s w v s' := by
  obtain ⟨x, y, hl, hx, hy⟩ := xs_two hx
  obtain ⟨cs, hq⟩ := run_callB (a := a) ho hc (arr_two hl)
  have rx := x_rep he hx
  have ry := x_rep he hy
  have hts : c.argTypes = #[t0, t1] := by rw [← Array.toArray_toList (xs := c.argTypes), hts]
  have hcell : P.cellsOf u = 1 := by unfold szOf at hs; simp [Program.cellsOf, hs]
  rw [hq, hts]
  unfold oUstr at h
  split at h
  · rename_i k hye
    rw [hye] at ry
    generalize hpy : a.eval y = q at ry
    cases ry
    split at h
    · rename_i hxe
      rw [hxe] at rx
      obtain ⟨hk, h⟩ := bif_out h
      obtain ⟨rfl, rfl⟩ := ok_inj h
      have hk := Nat.eq_of_beq_eq_true hk
      subst hk
      generalize hpx : a.eval x = p at rx
      cases rx
      refine stepB (r := Builtin.unsafeString_ #[t0, t1] o.type #[a.eval x, a.eval y]) (by simp [builtin]) (u := .string .empty) ?_ hr (Nxt.refl _ _ _) (.str ⟨0, 0⟩ (by simp [S.Ok]))
      rw [hpx, hpy]
      exact Lib.run_unsafeString_none w t0 t1 o.type none
    · rename_i m hxe
      rw [hxe] at rx
      split at h
      · rename_i ver t b hb
        obtain ⟨hk, h⟩ := bif_out h
        obtain ⟨rfl, rfl⟩ := ok_inj h
        simp only [Bool.and_eq_true, Nat.blt] at hk
        have k1 := Nat.eq_of_beq_eq_true hk.1.1.1
        have k2 := Nat.eq_of_beq_eq_true hk.1.1.2
        have k3 := Nat.le_of_ble_eq_true hk.1.2
        have k4 := Nat.le_of_ble_eq_true hk.2
        subst k2; subst k1
        generalize hpx : a.eval x = p at rx
        cases rx with
        | ptr _ _ l hln =>
        have hbr := hr.at_ hb hln
        cases hbr with
        | bytes _ _ _ _ arr fz f1 f2 f3 f4 f5 f6 f7 =>
        have hN := nxt_put (x := none) (w' := w.freeze ⟨l.blk, 0, none⟩ b.n) hr hb hln (freeze_same _ _ _) (freeze_size _ _ _) (fun k hk => freeze_other w _ _ k hk)
        have hrel := rel_put hr hb hln hN (fun k hk => freeze_other w _ _ k hk) (fun _ hx => by cases hx)
        refine stepB (r := Builtin.unsafeString_ #[t0, t1] o.type #[a.eval x, a.eval y]) (by simp [builtin]) (u := .string b.toBA) ?_ hrel hN (.str b f4)
        rw [hpx, hpy]
        have hll : (b.toList.map UInt8.ofNat).length = b.n := by rw [List.length_map, S.toList_length]
        have := Lib.run_unsafeString_row (P := P) w t0 t1 o.type t ht hcell l.blk arr.size (by simp [World.shape?, f1]) (b.toList.map UInt8.ofNat) (by
          intro h0
          rw [h0] at hll
          simp at hll
          omega) (by rw [hll]; exact f5) (by rw [hll]; simp only [room] at k4; omega) (by
          intro j x hx
          rw [cell_at f1]
          rw [List.getElem?_map] at hx
          cases hb : b.toList[j]? with
          | none => rw [hb] at hx; cases hx
          | some c =>
            rw [hb] at hx
            cases hx
            have hj : j < b.n := by
              have := (List.getElem?_eq_some_iff.1 hb).1
              rwa [S.toList_length] at this
            have : (arr.toList.take b.n)[j]? = some (Value.int .u8 (c : Nat)) := by rw [f6, List.getElem?_map, hb]; rfl
            rw [List.getElem?_take, if_pos hj] at this
            have hc := S.toList_lt b c (List.mem_of_getElem? hb)
            simp only [Nat.zero_add]
            rw [← Array.getElem?_toList, this]
            simp [Nat.mod_eq_of_lt hc])
        rw [hll] at this
        exact this
      · cases h
    · cases h
  · cases h

/-! ### Pointers as unsafe ones -/
theorem run_viewAt_none {b : Nat} {arr : Array Value} {t : TypeId} {fz : Nat × Nat} (h : w.heap[b]? = some (.cells arr t fz)) : (viewAt b).run P w = .ok none w := by
  simp [viewAt, World.shape?, h]

theorem k_convPtr (hr : Rel ι s w) (he : REnv d ι (Mut ι s) w e a.tmps) {src dst : TypeId} {x : Operand} {x' : X} {uo : Option (Nat × Nat)} (ho : o.op = .convert src dst x) (hx : xOf x = some x')
    (hk : (∃ u i, P.underlying src = some (.pointer u) ∧ P.underlying dst = some .unsafePointer ∧ P.info? u = some i ∧ i.size ≠ 0 ∧ uo = none) ∨
      (∃ u i, P.underlying src = some .unsafePointer ∧ P.underlying dst = some (.pointer u) ∧ P.info? u = some i ∧ i.size ≠ 0 ∧ uo = some (u, i.size)))
    (h : oConv s (.ptr uo) (x'.ev e) = .ok v s') : StepOk ((execOp a.eval o).run P w) ι s w v s' := by
  have rx := x_rep he hx
  simp only [oConv] at h
  split at h
  · rename_i hv
    obtain ⟨rfl, rfl⟩ := ok_inj h
    rw [hv] at rx
    generalize hp : a.eval x = p at rx
    cases rx
    refine step_pure hr (u := .pointer none) ?_ .nil
    rcases hk with ⟨u, i, h1, h2, _⟩ | ⟨u, i, h1, h2, _⟩ <;>
      simp [execOp, ho, hp, convert, run_underlying h1, run_underlying h2, Conv.unsafePointer]
  · rename_i n off hv
    rw [hv] at rx
    split at h
    · rename_i ver t cs hb
      obtain ⟨hg, h⟩ := bif_out h
      obtain ⟨rfl, rfl⟩ := ok_inj h
      simp only [Bool.and_eq_true, Nat.blt] at hg
      have g1 := Nat.le_of_ble_eq_true hg.1
      generalize hp : a.eval x = p at rx
      cases rx with
      | ptr _ _ l hln =>
      have hbr := hr.at_ hb hln
      cases hbr with
      | var _ _ _ _ arr f1 f2 =>
      have hlen : cs.length = arr.size := by rw [← f2.len]; simp
      have hview := run_viewAt_none (P := P) f1
      have hshape : w.shape? l.blk = some (t, arr.size) := by simp [World.shape?, f1]
      refine step_pure hr (u := .pointer (some ⟨l.blk, off, none⟩)) ?_ (.ptr _ _ l hln)
      rcases hk with ⟨u, i, h1, h2, h3, h4, rfl⟩ | ⟨u, i, h1, h2, h3, h4, rfl⟩
      · have hno : ¬ (arr.size ≤ off) := by omega
        simp [execOp, ho, hp, convert, run_underlying h1, run_underlying h2, Conv.unsafePointer, Conv.seenAt, hview, cellsIn, hshape, rsize h3, h4, hno]
      · simp only [Bool.and_eq_true] at hg
        have g2 := Nat.eq_of_beq_eq_true hg.2.1.1
        have g3 := Nat.eq_of_beq_eq_true hg.2.1.2
        have g4 := Nat.le_of_ble_eq_true hg.2.2
        subst g2; subst g3
        have hcells : P.cellsOf t = i.size := by simp [Program.cellsOf, h3]
        have hlies : liesAt P P.depth t (arr.size / i.size) 0 t 1 = true := by
          have hd : P.depth = (2 * (P.types.size + Made.depth) + 1) + 1 := rfl
          rw [hd]
          simp only [liesAt, Bool.or_eq_true]
          left
          rw [hd]
          have : 1 ≤ arr.size / i.size := (Nat.le_div_iff_mul_le (by omega)).2 (by omega)
          simp [rowAt, hcells, h4, sameLayout, this]
        simp [execOp, ho, hp, convert, run_underlying h1, run_underlying h2, Conv.unsafePointer, Conv.seenAt, hview, rsize h3, h4, variablesAt, hshape, hcells, hlies]
    · cases h
  · cases h
end ops
end Go.Hx

/- One operation: maps. -/
namespace Go.Hx
set_option autoImplicit false

section ops
variable {P : Program} {ι : Nm} {s s' : St} {w w' : World} {e : Env} {a : Act} {d : Nat} {o : Oper} {v : AV} {M : Nat → Prop}

theorem cell_same {a b : AV} {x y : Value} (h : eqCell a b = some true) (hx : Rep ι M w a x) (hy : Rep ι M w b y) : x = y ∧ ∀ n, Instr.sameBits (n + 1) x x = true := by
  cases a <;> cases b <;> simp only [eqCell, reduceCtorEq, Option.some.injEq] at h
  · cases hx; cases hy; simp at h; subst h; exact ⟨rfl, fun n => by simp [Instr.sameBits]⟩
  · rename_i k p k' q
    cases hx; cases hy
    cases hk : k == k' with
    | false => rw [hk] at h; cases h
    | true =>
      rw [hk] at h
      have hk : k = k' := by simpa using hk
      subst hk
      simp only [cond_true, Option.some.injEq, I.eq_iff, beq_iff_eq] at h
      subst h
      exact ⟨rfl, fun n => by simp [Instr.sameBits]⟩
  · rename_i p q
    cases hx; cases hy
    rename_i h1 h2
    simp only [S.eqb, Bool.and_eq_true, Nat.beq_eq] at h
    have : p = q := by cases p; cases q; simp at h; obtain ⟨h3, h4⟩ := h; subst h3; subst h4; rfl
    subst this
    exact ⟨rfl, fun n => by simp only [Instr.sameBits]; exact (MapKept.bytes_beq _ _).2 rfl⟩

theorem cells_same : ∀ {ks : List Kc} {l m : List AV} {us vs : List Value}, eqKs ks l m = some true → Reps ι M w l us → Reps ι M w m vs → us = vs ∧ ∀ n, ∀ u ∈ us, Instr.sameBits (n + 1) u u = true := by
  intro ks
  induction ks with
  | nil =>
    intro l m us vs h h1 h2
    cases l <;> cases m <;> simp only [eqKs, reduceCtorEq] at h
    have e1 : us = [] := List.length_eq_zero_iff.1 h1.len
    have e2 : vs = [] := List.length_eq_zero_iff.1 h2.len
    subst e1; subst e2
    exact ⟨rfl, fun n u hu => by cases hu⟩
  | cons k ks ih =>
    intro l m us vs h h1 h2
    cases l <;> cases m <;> simp only [eqKs, reduceCtorEq] at h
    rename_i a l b m
    obtain ⟨hg, h⟩ := bif_some h
    split at h
    · rename_i he
      cases us with
      | nil => have := h1.len; simp at this
      | cons u us =>
        cases vs with
        | nil => have := h2.len; simp at this
        | cons v vs =>
          obtain ⟨e1, e2⟩ := cell_same he (h1.at_ 0 a u rfl rfl) (h2.at_ 0 b v rfl rfl)
          obtain ⟨e3, e4⟩ := ih h ⟨by simpa using h1.len, fun k v u hv hu => h1.at_ (k + 1) v u (by simpa using hv) (by simpa using hu)⟩ ⟨by simpa using h2.len, fun k v u hv hu => h2.at_ (k + 1) v u (by simpa using hv) (by simpa using hu)⟩
          subst e1; subst e3
          refine ⟨rfl, fun n x hx => ?_⟩
          rcases List.mem_cons.1 hx with rfl | hx
          · exact e2 n
          · exact e4 n x hx
    · cases h
    · cases h

theorem key_same {g : Bool} {ks : List Kc} {a b : AV} {x y : Value} (h : eqKey g ks a b = some true) (hx : Rep ι M w a x) (hy : Rep ι M w b y) : x = y ∧ Instr.sameBits 10000 x x = true := by
  cases g with
  | false =>
    simp only [eqKey, cond_false] at h
    obtain ⟨h1, h2⟩ := cells_same h (reps_cons hx reps_nil) (reps_cons hy reps_nil)
    cases h1
    exact ⟨rfl, h2 9999 x List.mem_cons_self⟩
  | true =>
    simp only [eqKey, cond_true] at h
    cases a <;> cases b <;> simp only [eqAgg, reduceCtorEq] at h
    cases hx with
    | agg _ us h1 h2 =>
    cases hy with
    | agg _ vs h3 h4 =>
    have r1 : Reps ι M w _ us.toList := ⟨by simpa using h1, fun k v u hv hu => h2 k v u hv (by simpa using hu)⟩
    have r2 : Reps ι M w _ vs.toList := ⟨by simpa using h3, fun k v u hv hu => h4 k v u hv (by simpa using hu)⟩
    obtain ⟨q1, q2⟩ := cells_same h r1 r2
    have : us = vs := Array.ext' q1
    subst this
    refine ⟨rfl, ?_⟩
    show Instr.sameBits (9998 + 1 + 1) (.agg us) (.agg us) = true
    simp only [Instr.sameBits, BEq.rfl, Bool.true_and, List.all_eq_true]
    rintro ⟨p, q⟩ hpq
    have hpq' : p = q ∧ p ∈ us.toList := by
      have : ∀ l : List Value, (p, q) ∈ l.zip l → p = q ∧ p ∈ l := by
        intro l
        induction l with
        | nil => intro h; cases h
        | cons x l ih =>
          intro h
          simp only [List.zip_cons_cons, List.mem_cons, Prod.mk.injEq] at h
          rcases h with ⟨rfl, rfl⟩ | h
          · exact ⟨rfl, List.mem_cons_self⟩
          · obtain ⟨h1, h2⟩ := ih h; exact ⟨h1, List.mem_cons_of_mem _ h2⟩
      exact this _ hpq
    obtain ⟨rfl, hm⟩ := hpq'
    exact q2 9998 p hm

theorem run_stays {x : Value} (h : Instr.sameBits 10000 x x = true) : (Instr.keyThatStays x x).run P w = .ok x w := by
  simp [Instr.keyThatStays, h]

/-- Keys of a map's type. -/
inductive KeyT (P : Program) (kt : TypeId) : Bool → List Kc → Prop
  | int (k : IntKind) : P.underlying kt = some (.int k) → KeyT P kt false [.int]
  | str : P.underlying kt = some .string → KeyT P kt false [.str]
  | arr (n : Nat) (el : TypeId) (ks : List Kc) : P.underlying kt = some (.array n el) → plainT P kt = some ks → KeyT P kt true ks
theorem keyT_ok {kt : TypeId} {g : Bool} {ks : List Kc} (h : keyT P kt = some (g, ks)) : KeyT P kt g ks := by
  unfold keyT at h
  split at h
  · rename_i hu; cases h; exact .int _ hu
  · rename_i hu; cases h; exact .str hu
  · rename_i hu
    obtain ⟨ks', h1, h2⟩ := Option.map_eq_some_iff.1 h
    cases h2
    exact .arr _ _ _ hu h1
  · cases h

theorem now_one {kt : TypeId} {ks : List Kc} {D : TypeDesc} (hk : KeyT P kt false ks) (hD : P.underlying kt = some D) {a b : AV} {x y : Value} {r : Bool} (h : eqKey false ks a b = some r) (hx : Rep ι M w a x) (hy : Rep ι M w b y) :
    Instr.sameNow D x y = some r := by
  have one : ∀ k, eqKs [k] [a] [b] = some r → eqCell a b = some r ∧ kcOk k a = true := by
    intro k h
    simp only [eqKs] at h
    obtain ⟨hg, h⟩ := bif_some h
    simp only [Bool.and_eq_true] at hg
    split at h
    · rename_i he; cases h; exact ⟨he, hg.1⟩
    · rename_i he; cases h; exact ⟨he, hg.1⟩
    · cases h
  cases hk with
  | int k hu =>
    rw [hu] at hD; cases hD
    obtain ⟨h1, h2⟩ := one _ h
    cases a <;> simp only [kcOk, Bool.false_eq_true] at h2
    cases b <;> simp only [eqCell, reduceCtorEq] at h1
    obtain ⟨hk, h1⟩ := bif_some h1
    cases h1
    have hk := eq_of_beq hk
    subst hk
    cases hx; cases hy
    simp [Instr.sameNow, I.eq_iff]
  | str hu =>
    rw [hu] at hD; cases hD
    obtain ⟨h1, h2⟩ := one _ h
    cases a <;> simp only [kcOk, Bool.false_eq_true] at h2
    cases b <;> simp only [eqCell, reduceCtorEq, Option.some.injEq] at h1
    cases hx; cases hy
    rename_i p q hp hq
    simp only [Instr.sameNow]
    rw [← h1, ← str_beq hp hq]
    congr 1
    rw [Bool.eq_iff_iff]
    rw [MapKept.bytes_beq, beq_iff_eq]
    constructor
    · intro h; rw [h]
    · intro h; exact S.ba_ext (by rw [ByteArray.toList_eq, ByteArray.toList_eq] at h; exact h)

/-- Found, or not: the machine's and the model's. -/
def FoundAt (ι : Nm) (M : Nat → Prop) (w : World) (g : Bool) (ks : List Kc) (k : AV) (es : List (AV × AV)) (i : Nat) (r : Option AV) (r' : Option (Nat × Value)) : Prop :=
  match r with
  | none => r' = none
  | some v => ∃ j u b, r' = some (i + j, u) ∧ es[j]? = some (b, v) ∧ eqKey g ks k b = some true ∧ Rep ι M w v u ∧ (∀ (j' : Nat) (p : AV × AV), j' < j → es[j']? = some p → eqKey g ks k p.1 = some false)

theorem foundAt_cons {g : Bool} {ks : List Kc} {k a u0 : AV} {l : List (AV × AV)} {i : Nat} {r : Option AV} {r' : Option (Nat × Value)} (ha : eqKey g ks k a = some false) (h : FoundAt ι M w g ks k l (i + 1) r r') : FoundAt ι M w g ks k ((a, u0) :: l) i r r' := by
  cases r with
  | none => exact h
  | some v =>
    obtain ⟨j, u, b, h1, h2, h3, h4, h5⟩ := h
    refine ⟨j + 1, u, b, by rw [h1]; congr 2; omega, by simpa using h2, h3, h4, fun j' p hj hp => ?_⟩
    cases j' with
    | zero => cases hp; exact ha
    | succ j' => exact h5 j' p (by omega) (by simpa using hp)

theorem find_now {kt : TypeId} {ks : List Kc} {D : TypeDesc} (hk : KeyT P kt false ks) (hD : P.underlying kt = some D) {k : AV} {x : Value} (hx : Rep ι M w k x) : ∀ (es : List (AV × AV)) (l : List MapEntry) (i : Nat) (r : Option AV),
    Reps ι M w (es.map (·.1)) (l.map (·.key)) → Reps ι M w (es.map (·.2)) (l.map (·.val)) → findE false ks k es = some r → ∃ r', Instr.findNow D x l i = some r' ∧ FoundAt ι M w false ks k es i r r' := by
  intro es
  induction es with
  | nil =>
    intro l i r h1 h2 h
    have : l = [] := by have := h1.len; simpa using this
    subst this
    cases h
    exact ⟨none, rfl, rfl⟩
  | cons p es ih =>
    obtain ⟨b, v0⟩ := p
    intro l i r h1 h2 h
    cases l with
    | nil => have := h1.len; simp at this
    | cons m l =>
      have hb := h1.at_ 0 b m.key rfl rfl
      have hv := h2.at_ 0 v0 m.val rfl rfl
      simp only [findE] at h
      split at h
      · rename_i he
        cases h
        refine ⟨some (i, m.val), ?_, 0, m.val, b, rfl, rfl, he, hv, fun j' p hj => by omega⟩
        simp only [Instr.findNow, now_one hk hD he hx hb]
      · rename_i he
        obtain ⟨r', q1, q2⟩ := ih l (i + 1) r ⟨by simpa using h1.len, fun k v u hv hu => h1.at_ (k + 1) v u (by simpa using hv) (by simpa using hu)⟩ ⟨by simpa using h2.len, fun k v u hv hu => h2.at_ (k + 1) v u (by simpa using hv) (by simpa using hu)⟩ h
        refine ⟨r', ?_, foundAt_cons he q2⟩
        simp only [Instr.findNow, now_one hk hD he hx hb, q1]
      · cases h

theorem find_asking {kt : TypeId} {ks : List Kc} (hp : plainT P kt = some ks) {k : AV} {x : Value} (hx : Rep ι M w k x) : ∀ (es : List (AV × AV)) (l : List MapEntry) (i : Nat) (r : Option AV),
    Reps ι M w (es.map (·.1)) (l.map (·.key)) → Reps ι M w (es.map (·.2)) (l.map (·.val)) → findE true ks k es = some r → ∃ r', (Instr.findAsking kt x l i).run P w = .ok r' w ∧ FoundAt ι M w true ks k es i r r' := by
  intro es
  induction es with
  | nil =>
    intro l i r h1 h2 h
    have : l = [] := by have := h1.len; simpa using this
    subst this
    cases h
    exact ⟨none, rfl, rfl⟩
  | cons p es ih =>
    obtain ⟨b, v0⟩ := p
    intro l i r h1 h2 h
    cases l with
    | nil => have := h1.len; simp at this
    | cons m l =>
      have hb := h1.at_ 0 b m.key rfl rfl
      have hv := h2.at_ 0 v0 m.val rfl rfl
      simp only [findE] at h
      split at h
      · rename_i he
        cases h
        have heq := (agg_eq hp (show eqAgg ks k b = some true from he) hx hb).1
        refine ⟨some (i, m.val), ?_, 0, m.val, b, rfl, rfl, he, hv, fun j' p hj => by omega⟩
        simp [Instr.findAsking, heq]
      · rename_i he
        have heq := (agg_eq hp (show eqAgg ks k b = some false from he) hx hb).1
        obtain ⟨r', q1, q2⟩ := ih l (i + 1) r ⟨by simpa using h1.len, fun k v u hv hu => h1.at_ (k + 1) v u (by simpa using hv) (by simpa using hu)⟩ ⟨by simpa using h2.len, fun k v u hv hu => h2.at_ (k + 1) v u (by simpa using hv) (by simpa using hu)⟩ h
        refine ⟨r', ?_, foundAt_cons he q2⟩
        simp [Instr.findAsking, heq, q1]
      · cases h

theorem find_ok {kt : TypeId} {g : Bool} {ks : List Kc} (hk : KeyT P kt g ks) {k : AV} {x : Value} (hx : Rep ι M w k x) {es : List (AV × AV)} {l : List MapEntry} {r : Option AV}
    (h1 : Reps ι M w (es.map (·.1)) (l.map (·.key))) (h2 : Reps ι M w (es.map (·.2)) (l.map (·.val))) (h : findE g ks k es = some r) : ∃ r', (Instr.findKey kt x l).run P w = .ok r' w ∧ FoundAt ι M w g ks k es 0 r r' := by
  have hk' := hk
  cases hk with
  | int k hu =>
    obtain ⟨r', q1, q2⟩ := find_now hk' hu hx es l 0 r h1 h2 h
    exact ⟨r', by simp [Instr.findKey, run_underlying hu, q1], q2⟩
  | str hu =>
    obtain ⟨r', q1, q2⟩ := find_now hk' hu hx es l 0 r h1 h2 h
    exact ⟨r', by simp [Instr.findKey, run_underlying hu, q1], q2⟩
  | arr n el ks hu hp =>
    cases l with
    | nil =>
      have : es = [] := by have := h1.len; simpa using this.symm
      subst this
      cases h
      exact ⟨none, by simp [Instr.findKey, run_underlying hu, Instr.findNow], rfl⟩
    | cons m l =>
      obtain ⟨r', q1, q2⟩ := find_asking hp hx es (m :: l) 0 r h1 h2 h
      exact ⟨r', by simp [Instr.findKey, run_underlying hu, Instr.findNow, Instr.sameNow, q1], q2⟩

theorem run_units {α : Type} (f : α → PUnit → Sem (ForInStep PUnit)) : ∀ (l : List α), (∀ x ∈ l, (f x ⟨⟩).run P w = .ok (.yield ⟨⟩) w) → (forIn l PUnit.unit f).run P w = .ok ⟨⟩ w := by
  intro l
  induction l with
  | nil => intro _; simp
  | cons x l ih =>
    intro h
    simp only [List.forIn_cons, Sem.run_bind, h x List.mem_cons_self, Result.andThen_ok]
    exact ih (fun y hy => h y (List.mem_cons_of_mem _ hy))

theorem check_ok {kt : TypeId} {g : Bool} {ks : List Kc} (hk : KeyT P kt g ks) (em : Bool) {k : AV} {x : Value} (hx : Rep ι M w k x) (ho : keyOk g ks k = true) : (Instr.checkKey em 10000 kt x).run P w = .ok () w := by
  show (Instr.checkKey em (9998 + 1 + 1) kt x).run P w = .ok () w
  rw [Instr.checkKey]
  cases hk with
  | int k hu => simp [run_underlying hu]
  | str hu => simp [run_underlying hu]
  | arr n el ks hu hp =>
    cases k <;> simp only [keyOk, Bool.true_and, Bool.not_true, Bool.false_eq_true] at ho
    rename_i cs
    have ho := Nat.eq_of_beq_eq_true ho
    cases hx with
    | agg _ us h1 h2 =>
    have hpl : ∃ kk i, kcOf P el = some kk ∧ P.info? el = some i ∧ i.size = 1 ∧ ks = List.replicate n kk := by
      unfold plainT at hp
      split at hp
      · cases hp
      · rw [hu] at hp
        simp only at hp
        split at hp
        · rename_i kk hkk
          split at hp
          · rename_i hs
            cases hp
            have hs := eq_of_beq hs
            unfold szOf at hs
            obtain ⟨i, hi, hs⟩ := Option.map_eq_some_iff.1 hs
            exact ⟨kk, i, hkk, hi, hs, rfl⟩
          · cases hp
        · cases hp
    obtain ⟨kk, i, h3, h4, h5, rfl⟩ := hpl
    rw [List.length_replicate] at ho
    simp only [Sem.run_bind, run_underlying hu, Result.andThen_ok]
    simp only [Std.Legacy.Range.forIn_eq_forIn_range', Std.Legacy.Range.size, Nat.sub_zero, Nat.add_one_sub_one, Nat.div_one]
    rw [run_units (P := P) (w := w) _ _ (fun j hj => ?_)]
    · rfl
    have hjn : j < us.size := by
      rw [h1, ho]
      simpa using hj
    have hju : us[j]? = some us[j] := Array.getElem?_eq_getElem hjn
    have hck : (Instr.checkKey em (9998 + 1) el us[j]).run P w = .ok () w := by
      rw [Instr.checkKey]
      unfold kcOf at h3
      split at h3 <;> first | (cases h3; done) | (rename_i hue; simp [run_underlying hue])
    simp [rsize h4, h5, run_part1 h3 hju, hck]
end ops
end Go.Hx

/- One operation: maps (2). -/
namespace Go.Hx
set_option autoImplicit false

section ops
variable {P : Program} {ι : Nm} {s s' : St} {w w' : World} {e : Env} {a : Act} {d : Nat} {o : Oper} {v : AV} {M : Nat → Prop}

theorem k_look (hr : Rel ι s w) (he : REnv d ι (Mut ι s) w e a.tmps) {t kt el : TypeId} {x k : Operand} {x' k' : X} {ok g : Bool} {ks : List Kc} {z : AV} (ho : o.op = .lookup t x k ok) (hx : xOf x = some x') (hk : xOf k = some k')
    (ht : P.underlying t = some (.map kt el)) (hkt : keyT P kt = some (g, ks)) (hz : zeroV P el = some z) (h : oLook s g ks (k'.ev e) z ok (x'.ev e) = .ok v s') : StepOk ((execOp a.eval o).run P w) ι s w v s' := by
  have rx := x_rep he hx
  have rk := x_rep he hk
  obtain ⟨i, zv, h1, h2, h3⟩ := zeroV_rep (P := P) (ι := ι) (M := Mut ι s) (w := w) hz
  have hzr := run_zero (P := P) h1 h2 w
  have hkT := keyT_ok hkt
  unfold oLook at h
  split at h
  · rename_i n hxe
    rw [hxe] at rx
    split at h
    · rename_i ver es hb
      obtain ⟨hko, h⟩ := bif_out h
      generalize hp : a.eval x = p at rx
      cases rx with
      | map _ l hl =>
      have hbr := hr.at_ hb hl
      cases hbr with
      | map _ _ _ arr clock f1 f2 f3 =>
      unfold oFound at h
      have hget := MapKept.run_getObj_map (P := P) f1
      split at h
      · rename_i v0 hf
        obtain ⟨rfl, rfl⟩ := ok_inj h
        obtain ⟨r', q1, j, u, b, q2, q3, q4, q5, q6⟩ := find_ok hkT rk f2 f3 hf
        subst q2
        have hck := check_ok hkT arr.isEmpty rk hko
        refine step_pure hr (u := if ok then .tuple #[u, .bool true] else u) ?_ ?_
        · simp [execOp, ho, hp, Instr.lookup, run_underlying ht, hget, hck, q1]
        · cases ok with
          | true => exact reps_tup (reps_cons q5 (reps_cons (.bool _) reps_nil))
          | false => exact q5
      · rename_i hf
        obtain ⟨rfl, rfl⟩ := ok_inj h
        obtain ⟨r', q1, q2⟩ := find_ok hkT rk f2 f3 hf
        have q2 : r' = none := q2
        subst q2
        have hck := check_ok hkT arr.isEmpty rk hko
        refine step_pure hr (u := if ok then .tuple #[zv, .bool false] else zv) ?_ ?_
        · simp [execOp, ho, hp, Instr.lookup, run_underlying ht, hget, hck, q1, hzr]
        · cases ok with
          | true => exact reps_tup (reps_cons h3 (reps_cons (.bool _) reps_nil))
          | false => exact h3
      · cases h
    · cases h
  · cases h

theorem setE_ok {g : Bool} {ks : List Kc} {k v : AV} : ∀ {es es' : List (AV × AV)}, setE g ks k v es = some es' → ∃ r, findE g ks k es = some r ∧ (r = none → es' = es ++ [(k, v)]) ∧
    (∀ (j : Nat) (b u : AV), es[j]? = some (b, u) → eqKey g ks k b = some true → (∀ (j' : Nat) (p : AV × AV), j' < j → es[j']? = some p → eqKey g ks k p.1 = some false) → es' = es.set j (k, v)) := by
  intro es
  induction es with
  | nil => intro es' h; cases h; exact ⟨none, rfl, fun _ => rfl, fun j b u h => by simp at h⟩
  | cons p es ih =>
    obtain ⟨b, u⟩ := p
    intro es' h
    simp only [setE] at h
    split at h
    · rename_i he
      cases h
      refine ⟨some u, by simp only [findE, he], fun h => (by cases h), fun j b' u' h1 h2 h3 => ?_⟩
      cases j with
      | zero => rfl
      | succ j =>
        have := h3 0 (b, u) (by omega) rfl
        simp only at this
        rw [he] at this; cases this
    · rename_i he
      split at h
      · rename_i m hm
        cases h
        obtain ⟨r, q1, q2, q3⟩ := ih hm
        refine ⟨r, by simp only [findE, he, q1], fun h => by rw [q2 h]; rfl, fun j b' u' h1 h2 h3 => ?_⟩
        cases j with
        | zero => cases h1; rw [he] at h2; cases h2
        | succ j =>
          rw [q3 j b' u' (by simpa using h1) h2 (fun j' p hj hp => h3 (j' + 1) p (by omega) (by simpa using hp))]
          rfl
      · cases h
    · cases h

theorem reps_set {vs : List AV} {us : List Value} (h : Reps ι M w vs us) {j : Nat} {v : AV} {u : Value} (hv : Rep ι M w v u) : Reps ι M w (vs.set j v) (us.set j u) :=
  ⟨by simp [h.len], fun k v' u' h1 h2 => by
    rw [List.getElem?_set] at h1 h2
    by_cases hk : j = k
    · subst hk
      rw [if_pos rfl] at h1 h2
      split at h1
      · split at h2
        · cases h1; cases h2; exact hv
        · cases h2
      · cases h1
    · rw [if_neg hk] at h1 h2; exact h.at_ k v' u' h1 h2⟩

theorem modify_map {β : Type} (arr : Array MapEntry) (i : Nat) (f : MapEntry → MapEntry) (p : MapEntry → β) (y : β) (hf : ∀ e, p (f e) = y) : ((arr.modify i f).toList.map p) = (arr.toList.map p).set i y := by
  apply List.ext_getElem?
  intro k
  rw [List.getElem?_map, Array.getElem?_toList, Array.getElem?_modify, List.getElem?_set, List.getElem?_map, Array.getElem?_toList]
  by_cases hk : i = k
  · subst hk
    rw [if_pos rfl, if_pos rfl]
    by_cases hi : i < arr.size
    · rw [if_pos (by simpa using hi), Array.getElem?_eq_getElem hi]; simp [hf]
    · rw [if_neg (by simpa using hi), Array.getElem?_eq_none (by omega)]; rfl
  · rw [if_neg hk, if_neg hk]

theorem k_mset (hr : Rel ι s w) (he : REnv d ι (Mut ι s) w e a.tmps) {t kt el : TypeId} {m k y : Operand} {m' k' y' : X} {g : Bool} {ks : List Kc} (ho : o.op = .mapUpdate t m k y ∨ o.op = .insert t m k y) (hm : xOf m = some m') (hk : xOf k = some k') (hy : xOf y = some y')
    (ht : P.underlying t = some (.map kt el)) (hkt : keyT P kt = some (g, ks)) (h : oMset s g ks (k'.ev e) (y'.ev e) (m'.ev e) = .ok v s') : StepOk ((execOp a.eval o).run P w) ι s w v s' := by
  have rm := x_rep he hm
  have rk := x_rep he hk
  have ry := x_rep he hy
  have hkT := keyT_ok hkt
  unfold oMset at h
  split at h
  · rename_i n hme
    rw [hme] at rm
    split at h
    · rename_i ver es hb
      obtain ⟨hko, h⟩ := bif_out h
      split at h
      · rename_i es' hset
        obtain ⟨rfl, rfl⟩ := ok_inj h
        generalize hp : a.eval m = p at rm
        cases rm with
        | map _ l hl =>
        have hbr := hr.at_ hb hl
        cases hbr with
        | map _ _ _ arr clock f1 f2 f3 =>
        have hget := MapKept.run_getObj_map (P := P) f1
        have hlt : l.blk < w.heap.size := (Array.getElem?_eq_some_iff.1 f1).1
        have hck := check_ok hkT false rk hko
        obtain ⟨r, g1, g2, g3⟩ := setE_ok hset
        obtain ⟨r', q1, q2⟩ := find_ok hkT rk f2 f3 g1
        have hk2 : ∀ x : Obj, ∀ k, k ≠ l.blk → ({ w with heap := w.heap.setIfInBounds l.blk x } : World).heap[k]? = w.heap[k]? := fun x k hk => by
          simp [Array.getElem?_setIfInBounds_ne (Ne.symm hk)]
        have hself : ∀ x : Obj, ({ w with heap := w.heap.setIfInBounds l.blk x } : World).heap[l.blk]? = some x := fun x => by simp [hlt]
        have fin : ∀ (arr' : Array MapEntry) (clock' : Nat), (Instr.mapUpdate t (.map (some l.blk)) (a.eval k) (a.eval y)).run P w = .ok () { w with heap := w.heap.setIfInBounds l.blk (.map arr' clock') } →
            Reps ι (Mut ι s) w (es'.map (·.1)) (arr'.toList.map (·.key)) → Reps ι (Mut ι s) w (es'.map (·.2)) (arr'.toList.map (·.val)) →
            StepOk ((execOp a.eval o).run P w) ι s w .undef (s.put n (some (.map (Nat.succ ver) es'))) := by
          intro arr' clock' hrun r1 r2
          have hN := nxt_put (w := w) (x := some (.map (Nat.succ ver) es')) (w' := { w with heap := w.heap.setIfInBounds l.blk (.map arr' clock') }) hr hb hl ⟨rfl, rfl, rfl⟩ (by simp) (hk2 _)
          refine ⟨undef, _, ι, .inr ⟨?_, rfl⟩, rel_put hr hb hl hN (hk2 _) (fun b' hb' => ?_), hN, rep_undef⟩
          · rcases ho with ho | ho <;> simp [execOp, ho, hp, hrun]
          · cases hb'
            exact .map _ _ _ arr' clock' (hself _) (r1.mono hN) (r2.mono hN)
        cases r with
        | none =>
          have q2 : r' = none := q2
          subst q2
          have he' := g2 rfl
          subst he'
          refine fin (arr.push { key := a.eval k, val := a.eval y, born := clock }) (clock + 1) ?_ ?_ ?_
          · simp [Instr.mapUpdate, run_underlying ht, hget, hck, q1, MapKept.run_setObj_map _ f1]
          · simp only [List.map_append, List.map_cons, List.map_nil, Array.toList_push]
            exact reps_append f2 (reps_cons rk reps_nil)
          · simp only [List.map_append, List.map_cons, List.map_nil, Array.toList_push]
            exact reps_append f3 (reps_cons ry reps_nil)
        | some v0 =>
          obtain ⟨j, u, b, q3, q4, q5, q6, q7⟩ := q2
          subst q3
          have he' := g3 j b v0 q4 q5 q7
          subst he'
          have hjlen : j < es.length := (List.getElem?_eq_some_iff.1 q4).1
          have hbk : (es.map (·.1))[j]? = some b := by rw [List.getElem?_map, q4]; rfl
          obtain ⟨ub, hub, rb⟩ := reps_get f2 hbk
          rw [List.getElem?_map, Array.getElem?_toList] at hub
          obtain ⟨me, hme1, hme2⟩ := Option.map_eq_some_iff.1 hub
          obtain ⟨hsame, hbits⟩ := key_same q5 rk rb
          have hst := run_stays (P := P) (w := w) hbits
          refine fin (arr.modify j fun en => { en with key := a.eval k, val := a.eval y }) clock ?_ ?_ ?_
          · simp [Instr.mapUpdate, run_underlying ht, hget, hck, q1, hme1, hme2, ← hsame, hst, MapKept.run_setObj_map _ f1]
          · rw [modify_map arr j _ (·.key) (a.eval k) (fun _ => rfl), List.map_set]
            exact reps_set f2 rk
          · rw [modify_map arr j _ (·.val) (a.eval y) (fun _ => rfl), List.map_set]
            exact reps_set f3 ry
      · cases h
    · cases h
  · cases h
end ops
end Go.Hx

/- One operation: whatever the code holds. -/
namespace Go.Hx
set_option autoImplicit false

section ops
variable {P : Program} {ι : Nm} {s s' : St} {w w' : World} {e : Env} {a : Act} {d : Nat} {o : Oper} {v : AV} {M : Nat → Prop}

theorem szOf_ok {t : TypeId} {n : Nat} (h : szOf P t = some n) : ∃ i, P.info? t = some i ∧ i.size = n := by
  unfold szOf at h; exact Option.map_eq_some_iff.1 h
theorem szU_ok {t : TypeId} {n : Nat} (h : szU P t = some n) : ∃ i D, P.info? t = some i ∧ P.underlying t = some D ∧ i.size = n := by
  unfold szU at h
  split at h
  · rename_i D hD
    obtain ⟨i, h1, h2⟩ := szOf_ok h
    exact ⟨i, D, h1, hD, h2⟩
  · cases h
theorem elemT_ok {t el : TypeId} (h : elemT P t = some el) : P.underlying t = some (.slice el) := by
  unfold elemT at h
  split at h
  · rename_i h1; cases h; exact h1
  · cases h
theorem bytesOfT_ok {t : TypeId} {n : Nat} {i : TypeInfo} (hi : P.info? t = some i) (h : bytesOfT P t = some n) : i.bytes = n := by
  unfold bytesOfT at h; rw [hi] at h; cases h; rfl

theorem parts_ok (place : Nat → Option (Nat × Nat)) (f : Nat × Operand → Option (Nat × Nat × X)) (hf : ∀ i x r, f (i, x) = some r → ∃ off n x', r = (off, n, x') ∧ place i = some (off, n) ∧ xOf x = some x') :
    ∀ (l : List (Nat × Operand)) (l' : List (Nat × Nat × X)), l.mapM f = some l' → Parts place l l' := by
  intro l
  induction l with
  | nil => intro l' h; simp at h; subst h; exact .nil
  | cons p l ih =>
    obtain ⟨i, x⟩ := p
    intro l' h
    simp only [List.mapM_cons, Option.pure_def, Option.bind_eq_bind, Option.bind_eq_some_iff] at h
    obtain ⟨r, h1, m, h2, h3⟩ := h
    cases h3
    obtain ⟨off, n, x', rfl, h4, h5⟩ := hf _ _ _ h1
    exact .cons _ _ _ _ _ _ _ h4 h5 (ih _ h2)

theorem s_build (hr : Rel ι s w) (he : REnv d ι (Mut ι s) w e a.tmps) {rows : Bool} {k : K} {t : TypeId} {ps : Array (Nat × Operand)} (hop : o.op = .build t ps) (hk : kOf P rows o = some k) (h : kst e s k = .ok v s') :
    StepOk ((execOp a.eval o).run P w) ι s w v s' := by
  simp only [kOf, hop, Option.pure_def, Option.bind_eq_bind, Option.bind_eq_some_iff] at hk
  obtain ⟨z, hz, hk⟩ := hk
  split at hk
  · rename_i fs hu
    simp only [Option.bind_eq_some_iff] at hk
    obtain ⟨szs, hszs, ps', hps, hk⟩ := hk
    cases hk
    have hpl : ∃ places, fs.toList.mapM (fun f => (P.info? f.type).map fun i => (f.offset, i.size)) = some places := by
      generalize fs.toList = l at hszs
      clear hps h hu
      induction l generalizing szs with
      | nil => exact ⟨[], rfl⟩
      | cons f l ih =>
        simp only [List.mapM_cons, Option.pure_def, Option.bind_eq_bind, Option.bind_eq_some_iff] at hszs
        obtain ⟨n, h1, m, h2, h3⟩ := hszs
        obtain ⟨pl, h4⟩ := ih _ h2
        obtain ⟨i, h5, h6⟩ := szOf_ok h1
        exact ⟨(f.offset, i.size) :: pl, by simp [List.mapM_cons, h5, h4]⟩
    obtain ⟨places, hpl⟩ := hpl
    refine k_build hr he (place := (places.toArray[·]?)) hop hz ?_ ?_ h
    · intro zv i h1 h2 parts
      simp only [Program.built, h1, hu, h2, hpl]
    · refine parts_ok _ _ ?_ _ _ hps
      intro i x r hr'
      simp only [Option.bind_eq_some_iff] at hr'
      obtain ⟨f, h1, n, h2, x', h3, h4⟩ := hr'
      cases h4
      obtain ⟨inf, h5, h6⟩ := szOf_ok h2
      refine ⟨_, _, _, rfl, ?_, h3⟩
      have h1' : fs.toList[i]? = some f := by simpa using h1
      have key : ∀ (l : List Field) (pl : List (Nat × Nat)) (i : Nat), l.mapM (fun f => (P.info? f.type).map fun i => (f.offset, i.size)) = some pl → l[i]? = some f → pl[i]? = some (f.offset, n) := by
        intro l
        induction l with
        | nil => intro pl i _ h; simp at h
        | cons g l ih =>
          intro pl i hpl hi
          simp only [List.mapM_cons, Option.pure_def, Option.bind_eq_bind, Option.bind_eq_some_iff] at hpl
          obtain ⟨q, h1, m, h2, h3⟩ := hpl
          cases h3
          cases i with
          | zero =>
            cases hi
            rw [h5] at h1
            cases h1
            rw [← h6]; rfl
          | succ i => exact ih m i h2 (by simpa using hi)
      have := key _ _ _ hpl h1'
      simpa using this
  · rename_i n el hu
    simp only [Option.bind_eq_some_iff] at hk
    obtain ⟨sz, hsz, ps', hps, hk⟩ := hk
    cases hk
    obtain ⟨i, hi, his⟩ := szOf_ok hsz
    refine k_build hr he (place := fun j => some (j * i.size, i.size)) hop hz ?_ ?_ h
    · intro zv j h1 h2 parts
      simp only [Program.built, h1, hu, h2, hi]
    · refine parts_ok _ _ ?_ _ _ hps
      intro j x r hr'
      simp only [Option.bind_eq_some_iff] at hr'
      obtain ⟨x', h3, h4⟩ := hr'
      cases h4
      exact ⟨_, _, _, rfl, by rw [his], h3⟩
  · cases hk

theorem s_buildSlice (hr : Rel ι s w) (he : REnv d ι (Mut ι s) w e a.tmps) {rows : Bool} {k : K} {t : TypeId} {n : Nat} {ps : Array (Nat × Operand)} (hop : o.op = .buildSlice t n ps) (hk : kOf P rows o = some k) (h : kst e s k = .ok v s') :
    StepOk ((execOp a.eval o).run P w) ι s w v s' := by
  simp only [kOf, hop, Option.pure_def, Option.bind_eq_bind, Option.bind_eq_some_iff] at hk
  obtain ⟨el, hel, ps', hps, sz, hsz, z, hz, hk⟩ := hk
  obtain ⟨i, hi, rfl⟩ := szOf_ok hsz
  have ht := elemT_ok hel
  split at hk
  · cases hk
  · rename_i hc
    simp only [Bool.or_eq_true, decide_eq_true_eq, not_or, bne_iff_ne, ne_eq, Decidable.not_not] at hc
    obtain ⟨⟨c1, c2⟩, c3⟩ := hc
    have hP : Parts (fun j => some (j * i.size, i.size)) ps.toList (ps'.map fun (j, x) => (j * i.size, i.size, x)) := by
      generalize ps.toList = l at hps
      clear h hk
      induction l generalizing ps' with
      | nil => simp at hps; subst hps; exact .nil
      | cons p l ih =>
        obtain ⟨j, x⟩ := p
        simp only [List.mapM_cons, Option.pure_def, Option.bind_eq_bind, Option.bind_eq_some_iff] at hps
        obtain ⟨r, ⟨x', h1, h2⟩, m, h3, h4⟩ := hps
        cases h2; cases h4
        exact .cons _ _ _ _ _ _ _ rfl h1 (ih _ h3)
    cases rows with
    | true =>
      simp only [if_true] at hk
      cases hk
      exact k_bsr hr he hop ht hi hz (by omega) (by omega) c3 hP h
    | false =>
      simp only [Bool.false_eq_true, if_false] at hk
      cases hk
      exact k_bsl hr he hop ht hi hz (by omega) (by omega) c3 hP h

theorem s_binOp (hr : Rel ι s w) (he : REnv d ι (Mut ι s) w e a.tmps) {rows : Bool} {k : K} {op : BinOp} {t t' : TypeId} {x y : Operand} (hop : o.op = .binOp op t x y t') (hk : kOf P rows o = some k) (h : kst e s k = .ok v s') :
    StepOk ((execOp a.eval o).run P w) ι s w v s' := by
  simp only [kOf, hop, Option.pure_def, Option.bind_eq_bind, Option.bind_eq_some_iff] at hk
  obtain ⟨x', hx, y', hy, hk⟩ := hk
  have agg : ∀ {ks : List Kc}, plainT P t = some ks → ((op = .eql ∧ k = K.eqs ks false x' y') ∨ (op = .neq ∧ k = K.eqs ks true x' y')) → StepOk ((execOp a.eval o).run P w) ι s w v s' := by
    intro ks hks hk
    rcases hk with ⟨rfl, rfl⟩ | ⟨rfl, rfl⟩
    · exact k_eqs hr he hop (.inl ⟨rfl, rfl⟩) hks hx hy h
    · exact k_eqs hr he hop (.inr ⟨rfl, rfl⟩) hks hx hy h
  split at hk
  · simp only [Option.bind_eq_some_iff] at hk
    obtain ⟨ks, hks, hk⟩ := hk
    exact agg hks (by cases op <;> simp only [reduceCtorEq] at hk <;> cases hk <;> simp)
  · simp only [Option.bind_eq_some_iff] at hk
    obtain ⟨ks, hks, hk⟩ := hk
    exact agg hks (by cases op <;> simp only [reduceCtorEq] at hk <;> cases hk <;> simp)
  · cases hk; exact k_bin hr he hop hx hy h
  · cases hk; exact k_bin hr he hop hx hy h
  · rename_i D _ _ _ _ hD
    cases op <;> simp only [Option.bind_some, Option.bind_none, reduceCtorEq] at hk
    · split at hk
      · cases hk; exact k_eqt (c := .bool) hr he hop (.inl ⟨rfl, rfl⟩) hD rfl (fun h => by cases h) hx hy h
      · rename_i u _ _ _ _
        split at hk
        · cases hk
        · rename_i hc
          cases hk
          cases hs : szOf P u with
          | none => simp [hs] at hc
          | some n =>
            obtain ⟨i, hi, his⟩ := szOf_ok hs
            exact k_eqt (c := .ptr) hr he hop (.inl ⟨rfl, rfl⟩) hD ⟨u, i, rfl, hi, by rw [his]; intro h0; simp [hs, h0] at hc⟩ (fun h => by cases h) hx hy h
      · cases hk; exact k_eqt (c := .sl) hr he hop (.inl ⟨rfl, rfl⟩) hD ⟨_, rfl⟩ (fun h => by cases h) hx hy h
      · cases hk; exact k_eqt (c := .fn) hr he hop (.inl ⟨rfl, rfl⟩) hD ⟨_, _, _, rfl⟩ (fun h => by cases h) hx hy h
      · split at hk
        · rename_i hc
          cases hk; exact k_eqt (c := .iface) hr he hop (.inl ⟨rfl, rfl⟩) hD ⟨_, rfl⟩ (fun _ => by simpa using hc) hx hy h
        · cases hk
      · cases hk
    · split at hk
      · cases hk; exact k_eqt (c := .bool) hr he hop (.inr ⟨rfl, rfl⟩) hD rfl (fun h => by cases h) hx hy h
      · rename_i u _ _ _ _
        split at hk
        · cases hk
        · rename_i hc
          cases hk
          cases hs : szOf P u with
          | none => simp [hs] at hc
          | some n =>
            obtain ⟨i, hi, his⟩ := szOf_ok hs
            exact k_eqt (c := .ptr) hr he hop (.inr ⟨rfl, rfl⟩) hD ⟨u, i, rfl, hi, by rw [his]; intro h0; simp [hs, h0] at hc⟩ (fun h => by cases h) hx hy h
      · cases hk; exact k_eqt (c := .sl) hr he hop (.inr ⟨rfl, rfl⟩) hD ⟨_, rfl⟩ (fun h => by cases h) hx hy h
      · cases hk; exact k_eqt (c := .fn) hr he hop (.inr ⟨rfl, rfl⟩) hD ⟨_, _, _, rfl⟩ (fun h => by cases h) hx hy h
      · split at hk
        · rename_i hc
          cases hk; exact k_eqt (c := .iface) hr he hop (.inr ⟨rfl, rfl⟩) hD ⟨_, rfl⟩ (fun _ => by simpa using hc) hx hy h
        · cases hk
      · cases hk
  · cases hk

theorem s_convert (hr : Rel ι s w) (he : REnv d ι (Mut ι s) w e a.tmps) {rows : Bool} {k : K} {t t' : TypeId} {x : Operand} (hop : o.op = .convert t t' x) (hk : kOf P rows o = some k) (h : kst e s k = .ok v s') :
    StepOk ((execOp a.eval o).run P w) ι s w v s' := by
  simp only [kOf, hop, Option.pure_def, Option.bind_eq_bind, Option.bind_eq_some_iff] at hk
  obtain ⟨x', hx, hk⟩ := hk
  split at hk
  · rename_i h1 h2; cases hk; exact k_convInt hr he hop hx h1 h2 h
  · rename_i h1 h2; cases hk; exact k_convStr hr he hop hx h1 h2 h
  · rename_i h1 h2
    split at hk
    · rename_i h3; cases hk; exact k_toBytes hr he hop hx h1 h2 h3 h
    · cases hk
  · rename_i h1 h2
    split at hk
    · rename_i h3; cases hk; exact k_ofBytes hr he hop hx h1 h2 h3 h
    · cases hk
  · rename_i u h1 h2
    simp only [Option.bind_eq_some_iff] at hk
    obtain ⟨z, hz, hk⟩ := hk
    obtain ⟨i, hi, rfl⟩ := szOf_ok hz
    split at hk
    · cases hk
    · rename_i hne
      cases hk
      exact k_convPtr hr he hop hx (.inr ⟨_, i, h1, h2, hi, hne, rfl⟩) h
  · rename_i u h1 h2
    simp only [Option.bind_eq_some_iff] at hk
    obtain ⟨z, hz, hk⟩ := hk
    obtain ⟨i, hi, rfl⟩ := szOf_ok hz
    split at hk
    · cases hk
    · rename_i hne
      cases hk
      exact k_convPtr hr he hop hx (.inl ⟨_, i, h1, h2, hi, hne, rfl⟩) h
  · cases hk

theorem s_slice (hr : Rel ι s w) (he : REnv d ι (Mut ι s) w e a.tmps) {rows : Bool} {k : K} {t : TypeId} {x : Operand} {lo hi mx : Option Operand} (hop : o.op = .slice t x lo hi mx) (hk : kOf P rows o = some k) (h : kst e s k = .ok v s') :
    StepOk ((execOp a.eval o).run P w) ι s w v s' := by
  simp only [kOf, hop, Option.pure_def, Option.bind_eq_bind, Option.bind_eq_some_iff] at hk
  obtain ⟨x', hx, lo', hlo, hi', hhi, mx', hmx, hk⟩ := hk
  have hnone : ∀ {y : Option Operand}, xo y = some none → y = none := fun {y} h => by
    cases y with
    | none => rfl
    | some y => simp only [xo] at h; obtain ⟨_, _, h⟩ := Option.map_eq_some_iff.1 h; cases h
  have hsome : ∀ {y : Option Operand} {y' : X}, xo y = some (some y') → ∃ y0, y = some y0 ∧ xOf y0 = some y' := fun {y y'} h => by
    cases y with
    | none => cases h
    | some y => simp only [xo] at h; obtain ⟨_, h1, h⟩ := Option.map_eq_some_iff.1 h; cases h; exact ⟨y, rfl, h1⟩
  split at hk
  · rename_i ht
    split at hk
    · cases hk
      have := hnone hmx
      subst this
      exact k_subs hr he hop hx hlo hhi ht h
    · cases hk
  · rename_i el ht
    split at hk
    · cases hk
    · rename_i hnn
      simp only [Option.bind_eq_some_iff] at hk
      obtain ⟨sz, hsz, hk⟩ := hk
      cases hk
      obtain ⟨i, hi0, rfl⟩ := szOf_ok hsz
      cases mx' with
      | none =>
        have := hnone hmx
        subst this
        exact k_sub0 hr he hop hx hlo hhi ht hi0 h
      | some m =>
        cases hi' with
        | none => exact absurd rfl (hnn m rfl)
        | some h' =>
          obtain ⟨mo, rfl, q1⟩ := hsome hmx
          obtain ⟨ho, rfl, q2⟩ := hsome hhi
          exact k_subM hr he hop hx hlo q2 q1 ht hi0 h
  · cases hk
end ops
end Go.Hx

/- One operation: whatever the code holds (2). -/
namespace Go.Hx
set_option autoImplicit false

section ops
variable {P : Program} {ι : Nm} {s s' : St} {w w' : World} {e : Env} {a : Act} {d : Nat} {o : Oper} {v : AV} {M : Nat → Prop}

theorem s_callB (hr : Rel ι s w) (he : REnv d ι (Mut ι s) w e a.tmps) {k : K} {c : Call} {b : Builtin} {ty : TypeId} (hop : o.op = .call c) (hc : c.callee = .builtin b) (hk : callOf P c ty = some k) (h : kst e s k = .ok v s') :
    StepOk ((execOp a.eval o).run P w) ι s w v s' := by
  unfold callOf at hk
  simp only [hc, Option.pure_def, Option.bind_eq_bind, Option.bind_eq_some_iff] at hk
  obtain ⟨as, has, t0, ht0, hk⟩ := hk
  split at hk
  · -- len
    rename_i x
    split at hk
    · rename_i n el hu; cases hk; exact k_lena hr hop hc has ht0 (.inl ⟨_, hu⟩) h
    · rename_i u hu
      split at hk
      · rename_i n el hu2; cases hk; exact k_lena hr hop hc has ht0 (.inr ⟨_, _, hu, hu2⟩) h
      · cases hk
    · rename_i hu; cases hk; exact k_lens hr he hop hc has ht0 hu h
    · rename_i el hu; cases hk; exact k_len hr he hop hc has ht0 hu h
    · cases hk
  · -- cap
    split at hk
    · rename_i el hu; cases hk; exact k_cap hr he hop hc has ht0 hu h
    · cases hk
  · -- append
    simp only [Option.bind_eq_some_iff] at hk
    obtain ⟨el, hel, t1, ht1, sz, hsz, by_, hby, z, hz, hk⟩ := hk
    obtain ⟨i, hi, rfl⟩ := szOf_ok hsz
    have hby := bytesOfT_ok hi hby
    subst hby
    have ht := elemT_ok hel
    split at hk
    · cases hk
    · rename_i hg
      simp only [Bool.or_eq_true, decide_eq_true_eq, not_or, bne_iff_ne, ne_eq, Decidable.not_not] at hg
      obtain ⟨⟨c1, c2⟩, c3⟩ := hg
      split at hk
      · rename_i el' hu; cases hk; exact k_app hr he hop hc has ht0 ht1 ht hu hi hz c3 (by omega) (by omega) h
      · rename_i hu
        split at hk
        · rename_i hb
          cases hk
          simp only [Bool.and_eq_true, decide_eq_true_eq] at hb
          exact k_apps hr he hop hc has ht0 ht1 ht hu hi hz c3 hb.1 hb.2 h
        · cases hk
      · rename_i kn hu
        split at hk
        · rename_i ta tb hts
          cases hk
          have e1 : ta = t0 := by
            have : c.argTypes.toList[0]? = some t0 := by simpa using ht0
            rw [hts] at this; simpa using this
          have e2 : tb = t1 := by
            have : c.argTypes.toList[1]? = some t1 := by simpa using ht1
            rw [hts] at this; simpa using this
          subst e1; subst e2
          exact k_appz hr he hop hc has hts ht hu hi hz c3 (by omega) h
        · cases hk
      · cases hk
  · -- copy
    split at hk
    · rename_i el el' hu hu2
      simp only [Option.bind_eq_some_iff] at hk
      obtain ⟨sz, hsz, hk⟩ := hk
      obtain ⟨i, hi, rfl⟩ := szOf_ok hsz
      cases hk
      exact k_copy hr he hop hc has ht0 hu hi h
    · cases hk
  · -- clear
    simp only [Option.bind_eq_some_iff] at hk
    obtain ⟨el, hel, sz, hsz, z, hz, hk⟩ := hk
    obtain ⟨i, hi, rfl⟩ := szOf_ok hsz
    have ht := elemT_ok hel
    split at hk
    · cases hk
    · rename_i hg
      simp only [Bool.or_eq_true, decide_eq_true_eq, not_or, bne_iff_ne, ne_eq, Decidable.not_not] at hg
      cases hk
      exact k_clear hr he hop hc has ht0 ht hi hz hg.2 (by omega) h
  · cases hk; exact k_mm hr he true hop hc has h
  · cases hk; exact k_mm hr he false hop hc has h
  · cases hk; exact k_sdata hr he hop hc has h
  · split at hk
    · rename_i ta tb u hts hu
      split at hk
      · rename_i hs
        cases hk
        have h1 : ta = t0 := by
          have : c.argTypes.toList[0]? = some t0 := by simpa using ht0
          rw [hts] at this; simpa using this
        subst h1
        exact k_ustr hr he hop hc has hts hu hs h
      · cases hk
    · cases hk
  · cases hk

theorem kst_sound (hr : Rel ι s w) (he : REnv d ι (Mut ι s) w e a.tmps) {rows : Bool} {k : K} (hk : kOf P rows o = some k) (h : kst e s k = .ok v s') : StepOk ((execOp a.eval o).run P w) ι s w v s' := by
  cases hop : o.op
  case move x =>
    simp only [kOf, hop, Option.pure_def, Option.bind_eq_bind, Option.bind_eq_some_iff] at hk
    obtain ⟨x', hx, hk⟩ := hk; cases hk
    exact k_mv hr he (.inl hop) hx h
  case assign x =>
    simp only [kOf, hop, Option.pure_def, Option.bind_eq_bind, Option.bind_eq_some_iff] at hk
    obtain ⟨x', hx, hk⟩ := hk; cases hk
    exact k_mv hr he (.inr hop) hx h
  case pick c x y =>
    simp only [kOf, hop, Option.pure_def, Option.bind_eq_bind, Option.bind_eq_some_iff] at hk
    obtain ⟨c', hc, x', hx, y', hy, hk⟩ := hk; cases hk
    exact k_pick hr he hop hc hx hy h
  case alloc t =>
    simp only [kOf, hop, Option.pure_def, Option.bind_eq_bind, Option.bind_eq_some_iff] at hk
    obtain ⟨z, hz, hk⟩ := hk; cases hk
    exact k_alloc hr hop hz h
  case box t x =>
    simp only [kOf, hop, Option.pure_def, Option.bind_eq_bind, Option.bind_eq_some_iff] at hk
    obtain ⟨x', hx, hk⟩ := hk; cases hk
    exact k_box hr he hop hx h
  case build t ps => exact s_build hr he hop hk h
  case buildSlice t n ps => exact s_buildSlice hr he hop hk h
  case load t x =>
    simp only [kOf, hop, Option.pure_def, Option.bind_eq_bind, Option.bind_eq_some_iff] at hk
    obtain ⟨sz, hsz, x', hx, hk⟩ := hk; cases hk
    obtain ⟨i, D, hi, hD, rfl⟩ := szU_ok hsz
    exact k_load hr he hop hx hD hi h
  case store t x y =>
    simp only [kOf, hop, Option.pure_def, Option.bind_eq_bind, Option.bind_eq_some_iff] at hk
    obtain ⟨sz, hsz, x', hx, y', hy, hk⟩ := hk; cases hk
    obtain ⟨i, hi, rfl⟩ := szOf_ok hsz
    exact k_store hr he hop hx hy hi h
  case nilCheck x =>
    simp only [kOf, hop, Option.pure_def, Option.bind_eq_bind, Option.bind_eq_some_iff] at hk
    obtain ⟨x', hx, hk⟩ := hk; cases hk
    exact k_nck hr he hop hx h
  case binOp op t x y t' => exact s_binOp hr he hop hk h
  case unOp op t x =>
    simp only [kOf, hop, Option.pure_def, Option.bind_eq_bind, Option.bind_eq_some_iff] at hk
    obtain ⟨x', hx, hk⟩ := hk; cases hk
    exact k_un hr he hop hx h
  case convert t t' x => exact s_convert hr he hop hk h
  case makeInterface t x =>
    simp only [kOf, hop] at hk
    split at hk
    · cases hk
    · cases hk
    · rename_i hn1 hn2
      simp only [Option.pure_def, Option.bind_eq_bind, Option.bind_eq_some_iff] at hk
      obtain ⟨x', hx, hk⟩ := hk; cases hk
      cases ht : P.underlying t with
      | none => exact absurd ht hn2
      | some D => exact k_mkif hr he hop hx ht (fun ms hD => hn1 ms (by rw [ht, hD])) h
  case makeFunc f xs ys =>
    cases f
    case func f =>
      simp only [kOf, hop, Option.pure_def, Option.bind_eq_bind, Option.bind_eq_some_iff] at hk
      obtain ⟨xs', hxs, ys', hys, hk⟩ := hk; cases hk
      exact k_mkfn hr he hop hxs hys h
    all_goals (simp [kOf, hop] at hk)
  case makeMap t r =>
    cases r with
    | none =>
      simp only [kOf, hop] at hk
      cases hk
      exact k_mkmap hr he hop (fun x h => by cases h) h
    | some x =>
      cases x with
      | const c =>
        cases c with
        | int kk n =>
          simp only [kOf, hop] at hk
          split at hk
          · rename_i kt et hu; cases hk; exact k_mkmap hr he hop (fun x h => by cases h; exact ⟨_, _, _, _, rfl, hu⟩) h
          · cases hk
        | _ => simp [kOf, hop] at hk
      | _ => simp [kOf, hop] at hk
  case makeSlice t x y =>
    simp only [kOf, hop, Option.pure_def, Option.bind_eq_bind, Option.bind_eq_some_iff] at hk
    obtain ⟨el, hel, sz, hsz, z, hz, hk⟩ := hk
    obtain ⟨i, hi, rfl⟩ := szOf_ok hsz
    split at hk
    · cases hk
    · rename_i hg
      simp only [Bool.or_eq_true, decide_eq_true_eq, not_or, bne_iff_ne, ne_eq, Decidable.not_not] at hg
      simp only [Option.bind_eq_some_iff] at hk
      obtain ⟨by_, hby, x', hx, y', hy, hk⟩ := hk
      have hby := bytesOfT_ok hi hby
      subst hby
      cases hk
      exact k_mksl hr he hop hx hy (elemT_ok hel) hi hz (by omega) hg.2 h
  case slice t x lo hi mx => exact s_slice hr he hop hk h
  case fieldAddr t x f =>
    simp only [kOf, hop] at hk
    split at hk
    · rename_i fs ht
      simp only [Option.pure_def, Option.bind_eq_bind, Option.bind_eq_some_iff] at hk
      obtain ⟨g, hg, sz, hsz, hk⟩ := hk
      obtain ⟨i, hi, rfl⟩ := szOf_ok hsz
      split at hk
      · cases hk
      · rename_i hne
        simp only [Option.bind_eq_some_iff] at hk
        obtain ⟨x', hx, hk⟩ := hk; cases hk
        exact k_fad hr he hop hx ht hg hi hne h
    · cases hk
  case field t x f =>
    simp only [kOf, hop] at hk
    split at hk
    · rename_i fs ht
      simp only [Option.pure_def, Option.bind_eq_bind, Option.bind_eq_some_iff] at hk
      obtain ⟨g, hg, sz, hsz, x', hx, hk⟩ := hk; cases hk
      obtain ⟨i, D, hi, hD, rfl⟩ := szU_ok hsz
      exact k_fld hr he hop hx ht hg hD hi h
    · cases hk
  case indexAddr t x ix =>
    simp only [kOf, hop] at hk
    split at hk
    · rename_i el ht
      simp only [Option.pure_def, Option.bind_eq_bind, Option.bind_eq_some_iff] at hk
      obtain ⟨sz, hsz, x', hx, i', hix, hk⟩ := hk; cases hk
      obtain ⟨i, hi, rfl⟩ := szOf_ok hsz
      exact k_iad hr he hop hx hix ht hi h
    · rename_i n el ht
      simp only [Option.pure_def, Option.bind_eq_bind, Option.bind_eq_some_iff] at hk
      obtain ⟨sz, hsz, x', hx, i', hix, hk⟩ := hk; cases hk
      obtain ⟨i, hi, rfl⟩ := szOf_ok hsz
      exact k_iaa hr he hop hx hix ht hi h
    · cases hk
  case index t x ix =>
    simp only [kOf, hop] at hk
    split at hk
    · rename_i ht
      simp only [Option.pure_def, Option.bind_eq_bind, Option.bind_eq_some_iff] at hk
      obtain ⟨x', hx, i', hix, hk⟩ := hk; cases hk
      exact k_ixs hr he hop hx hix ht h
    · rename_i n el ht
      simp only [Option.pure_def, Option.bind_eq_bind, Option.bind_eq_some_iff] at hk
      obtain ⟨sz, hsz, x', hx, i', hix, hk⟩ := hk; cases hk
      obtain ⟨i, D, hi, hD, rfl⟩ := szU_ok hsz
      exact k_ixa hr he hop hx hix ht hD hi h
    · cases hk
  case lookup t x k ok =>
    simp only [kOf, hop] at hk
    split at hk
    · rename_i kt el ht
      simp only [Option.pure_def, Option.bind_eq_bind, Option.bind_eq_some_iff] at hk
      obtain ⟨⟨g, ks⟩, hkt, x', hx, k', hk', z, hz, hk⟩ := hk; cases hk
      exact k_look hr he hop hx hk' ht hkt hz h
    · cases hk
  case mapUpdate t m k y =>
    simp only [kOf, hop] at hk
    split at hk
    · rename_i kt el ht
      simp only [Option.pure_def, Option.bind_eq_bind, Option.bind_eq_some_iff] at hk
      obtain ⟨⟨g, ks⟩, hkt, m', hm, k', hk', y', hy, hk⟩ := hk; cases hk
      exact k_mset hr he (.inl hop) hm hk' hy ht hkt h
    · cases hk
  case insert t m k y =>
    simp only [kOf, hop] at hk
    split at hk
    · rename_i kt el ht
      simp only [Option.pure_def, Option.bind_eq_bind, Option.bind_eq_some_iff] at hk
      obtain ⟨⟨g, ks⟩, hkt, m', hm, k', hk', y', hy, hk⟩ := hk; cases hk
      exact k_mset hr he (.inr hop) hm hk' hy ht hkt h
    · cases hk
  case typeAssert x xt t ok =>
    simp only [kOf, hop] at hk
    split at hk
    · cases hk
    · cases hk
    · rename_i hn1 hn2
      simp only [Option.pure_def, Option.bind_eq_bind, Option.bind_eq_some_iff] at hk
      obtain ⟨x', hx, z, hz, hk⟩ := hk; cases hk
      cases ht : P.underlying t with
      | none => exact absurd ht hn2
      | some D => exact k_tas hr he hop hx ht (fun ms hD => hn1 ms (by rw [ht, hD])) hz h
  case extract x i =>
    simp only [kOf, hop, Option.pure_def, Option.bind_eq_bind, Option.bind_eq_some_iff] at hk
    obtain ⟨x', hx, hk⟩ := hk; cases hk
    exact k_ext hr he hop hx h
  case call c =>
    simp only [kOf, hop] at hk
    cases hc : c.callee with
    | builtin b => exact s_callB hr he hop hc hk h
    | invoke r m =>
      unfold callOf at hk
      simp only [hc, Option.pure_def, Option.bind_eq_bind, Option.bind_eq_some_iff] at hk
      obtain ⟨as, _, x', _, hk⟩ := hk; cases hk
      cases h
    | value f =>
      unfold callOf at hk
      simp only [hc, Option.bind_eq_bind, Option.bind_eq_some_iff] at hk
      obtain ⟨as, _, hk⟩ := hk
      cases f with
      | func f =>
        simp only [Option.pure_def] at hk
        split at hk
        · cases hk; cases h
        · cases hk; cases h
      | _ =>
        simp only [Option.pure_def, Option.bind_eq_some_iff] at hk
        obtain ⟨x', _, hk⟩ := hk; cases hk
        cases h
  all_goals (simp [kOf, hop] at hk)
end ops
end Go.Hx

/- Calls, results. -/
namespace Go.Hx
set_option autoImplicit false

/-- What a call of the machine's is for the model's. -/
def RetOk (ι : Nm) (s : St) (w : World) (v : AV) (s' : St) (e : Ending) (w' : World) : Prop :=
  ∃ u ι', e = .returned u ∧ Rel ι' s' w' ∧ Nxt ι s w ι' s' w' ∧ Rep ι' (Mut ι' s') w' v u

abbrev FW (r : Option Nat) : Fence := { Fence.wide with round := r }

/-- A function that may be called. -/
structure Fine (P : Program) (f : FuncId) : Prop where
  ex : ∃ fn, P.funcs[f]? = some fn ∧ fn.body.isNone = false ∧ (fn.name == "runtime.NumGoroutine") = false

/-- The code of a round. -/
def KOf (P : Program) (a : C) (c : Code) (n : Nat) : Prop := ∃ rows, a = cOf P rows c ∧ dstOk n c = true ∧ noRng c = true

def TgtOk (P : Program) (s : St) (v : AV) (s' : St) : Tgt → Prop
  | .fn f as => Fine P f ∧ ∀ (ι : Nm) (w : World) (args : Array Value), ι.K = KOf P → Rel ι s w → Reps ι (Mut ι s) w as args.toList → Calls P f args w (RetOk ι s w v s')
  | .ex f as => ∀ (ι : Nm) (w : World) (args : Array Value), ι.K = KOf P → Rel ι s w → Reps ι (Mut ι s) w as args.toList →
      ∃ u w' ι', (callFunc f args).run P w = .ok (.value u) w' ∧ Rel ι' s' w' ∧ Nxt ι s w ι' s' w' ∧ Rep ι' (Mut ι' s') w' v u
  | .yl n as => ∀ (ι : Nm) (w : World) (args : Array Value) (l : Loc), ι.K = KOf P → Rel ι s w → Reps ι (Mut ι s) w as args.toList → ι n = some l →
      ∃ fn tmps assign body, (Instr.yield l.blk args).run P w = .ok (.round l.blk fn tmps assign body) w ∧ ∀ r k, RoundIn (FW r) k P l.blk fn tmps assign body w (RetOk ι s w v s')

def CfOk (P : Program) (cf : Tgt → St → OutV) : Prop := ∀ t s v s', cf t s = .ok v s' → TgtOk P s v s' t

section
variable {P : Program} {ι : Nm} {s s' : St} {w w' : World} {e : Env} {a : Act} {d : Nat} {o : Oper} {v : AV}

theorem callFunc_ok {f : FuncId} (h : Fine P f) (args : Array Value) (w : World) : (callFunc f args).run P w = .ok (.enter f args) w := by
  obtain ⟨fn, h1, h2, h3⟩ := h.ex
  unfold callFunc
  simp only [Sem.run_bind, run_program, Result.andThen_ok, h1, h2, h3, Bool.false_eq_true, if_false, Sem.run_pure]

theorem callsIn_fw {r : Option Nat} {n : Nat} {f : FuncId} {args : Array Value} {R : Ending → World → Prop} (h : Calls P f args w R) : CallsIn (FW r) n P f args w R :=
  (callsIn_wide (n := n)).2 h

/-- An operation, met. -/
theorem wpIn_of {r : Option Nat} {n : Nat} {next : Act → World → Prop} {Q : Exit → Act → World → Prop} (hd : ∀ c, o.op ≠ .defer c)
    (h : o.uponIn (FW r) n P a next Q ((execOp a.eval o).run P w)) : o.wpIn (FW r) n P a w next Q :=
  ⟨fun _ _ => trivial, by rw [Oper.semAt_eq _ _ _ hd]; exact h⟩

theorem upon_enter {r : Option Nat} {n : Nat} {next : Act → World → Prop} {Q : Exit → Act → World → Prop} {f : FuncId} {args : Array Value}
    (hc : Calls P f args w (RetOk ι s w v s')) (h : ∀ u w' ι', Rel ι' s' w' → Nxt ι s w ι' s' w' → Rep ι' (Mut ι' s') w' v u → next (a.put o.dst u) w') :
    o.uponIn (FW r) n P a next Q (.ok (.enter f args) w) := by
  rw [Oper.uponIn_enter]
  refine ⟨fun h => (by cases h), CallsIn.mono (callsIn_fw hc) ?_⟩
  rintro e w' ⟨u, ι', rfl, h1, h2, h3⟩
  exact h u w' ι' h1 h2 h3

theorem reps_arr {M : Nat → Prop} {as bs : List AV} {x y : Array Value} (h1 : Reps ι M w as x.toList) (h2 : Reps ι M w bs y.toList) : Reps ι M w (as ++ bs) (x ++ y).toList := by
  rw [Array.toList_append]; exact reps_append h1 h2

theorem reps_of {M : Nat → Prop} {as : List AV} {x : Array Value} (h0 : x.size = as.length) (h : ∀ (k : Nat) (v : AV) (u : Value), as[k]? = some v → x[k]? = some u → Rep ι M w v u) : Reps ι M w as x.toList :=
  ⟨by simpa using h0, fun k v u hv hu => h k v u hv (by simpa using hu)⟩

/-- A call through an interface: whose. -/
theorem tab_ok {name : String} {t f : Nat} (h : (((List.range P.types.size).filterMap (tabAt P name)).find? fun p => Nat.beq p.1 t) = some (t, f)) (u : Value) :
    (method (P.types.size + Made.depth) t u name).run P w = .ok (f, u) w := by
  have hm := List.mem_of_find?_eq_some h
  obtain ⟨t', _, hf⟩ := List.mem_filterMap.1 hm
  unfold tabAt at hf
  split at hf
  · cases hf
  · rename_i i hi
    split at hf
    · cases hf
    · rename_i me hme
      split at hf
      · cases hf
      · rename_i g p hfn
        obtain ⟨hc, hf⟩ := bif_some hf
        cases hf
        simp only [Bool.and_eq_true] at hc
        obtain ⟨hp, hok⟩ := hc
        have hd : P.types.size + Made.depth = (P.types.size + Made.depth - 1) + 1 := by unfold Made.depth; omega
        rw [hd]
        have hpath : me.path.toList = [] := by simpa using hp
        unfold method
        simp only [Sem.run_bind, rinfo hi, Result.andThen_ok, hme, hpath, hfn, follow, Sem.run_pure]
        unfold recvOk at hok
        split at hok
        · rename_i q hU
          have hu : (underlying t).run P w = .ok (.pointer q) w := by simp [underlying, hU]
          subst hok
          simp [receiverAt, hu, Place.get, Sem.run_bind]
        · rename_i D hne hU
          have hu : (underlying t).run P w = .ok D w := by simp [underlying, hU]
          simp only [Bool.not_eq_eq_eq_not, Bool.not_true] at hok
          subst hok
          unfold receiverAt
          cases D with
          | pointer q => exact (hne q rfl).elim
          | _ => simp [hu, Place.get, Sem.run_bind]
        · cases hok
end
end Go.Hx

/- An operation, calls too; regions in order. -/
namespace Go.Hx
set_option autoImplicit false

def Nc : Option K → Prop
  | some k => k.isCall = false
  | none => True
theorem nc_bind {α : Type} (x : Option α) (f : α → Option K) (h : ∀ a, Nc (f a)) : Nc (x.bind f) := by
  cases x with
  | none => trivial
  | some a => exact h a

section
variable {P : Program} {ι : Nm} {s s' : St} {w w' : World} {e : Env} {a : Act} {d : Nat} {o : Oper} {v : AV} {rows : Bool}

theorem not_defer {k : K} (hk : kOf P rows o = some k) : ∀ c, o.op ≠ .defer c := by
  intro c hc
  simp [kOf, hc] at hk

/-- What a call's operation is: whose, with what. -/
theorem call_of {k : K} (hk : kOf P rows o = some k) (hc : k.isCall = true) : ∃ c : Call, o.op = .call c ∧ callOf P c o.type = some k := by
  by_cases h : ∃ c : Call, o.op = .call c
  · obtain ⟨c, hop⟩ := h
    refine ⟨c, hop, ?_⟩
    simpa [kOf, hop] using hk
  · exfalso
    have hn : Nc (kOf P rows o) := by
      cases hop : o.op
      case call c => exact absurd ⟨c, hop⟩ h
      all_goals
        simp only [kOf, hop, Option.pure_def, Option.bind_eq_bind]
        repeat' (first | exact trivial | exact rfl | (apply nc_bind; intro _) | split)
        try (all_goals (exfalso; simp_all; done))
    rw [hk] at hn
    have hn : k.isCall = false := hn
    rw [hn] at hc
    cases hc

/-- An operation that the machine carries out, met by the model. -/
theorem op_sound {cf : Tgt → St → OutV} (hcf : CfOk P cf) (hK : ι.K = KOf P) (hr : Rel ι s w) (he : REnv d ι (Mut ι s) w e a.tmps) {k : K} (hk : kOf P rows o = some k) (h : opRun cf e s k = .ok v s')
    {r : Option Nat} {n : Nat} {next : Act → World → Prop} {Q : Exit → Act → World → Prop}
    (hn : ∀ u w' ι', Rel ι' s' w' → Nxt ι s w ι' s' w' → Rep ι' (Mut ι' s') w' v u → next (a.put o.dst u) w') : o.wpIn (FW r) n P a w next Q := by
  refine wpIn_of (not_defer hk) ?_
  unfold opRun at h
  cases hc : k.isCall with
  | false =>
    rw [hc] at h
    simp only [cond_false] at h
    obtain ⟨u, w', ι', h1, h2, h3, h4⟩ := kst_sound hr he hk h
    rcases h1 with h1 | ⟨h1, rfl⟩
    · rw [h1]; exact hn u w' ι' h2 h3 h4
    · rw [h1]; exact hn undef w' ι' h2 h3 h4
  | true =>
    rw [hc] at h
    simp only [cond_true] at h
    obtain ⟨c, hop, hco⟩ := call_of hk hc
    have hex : execOp a.eval o = (do let d ← resolve a.eval c o.type; invoke d.target d.args) := by simp [execOp, hop]
    rw [hex]
    unfold callOf at hco
    simp only [Option.pure_def, Option.bind_eq_bind, Option.bind_eq_some_iff] at hco
    obtain ⟨as, has, hco⟩ := hco
    have hargs : Reps ι (Mut ι s) w (evs e as) (c.args.map a.eval).toList := by
      rw [Array.toList_map]; exact xs_reps he has
    cases hcl : c.callee with
    | builtin b =>
      rw [hcl] at hco
      exfalso
      have hn : Nc (some k) := by
        rw [← hco]
        simp only
        apply nc_bind; intro t0
        repeat' (first | exact trivial | exact rfl | (apply nc_bind; intro _) | split)
      have hn : k.isCall = false := hn
      rw [hn] at hc
      cases hc
    | invoke rv m =>
      rw [hcl] at hco
      simp only [Option.bind_eq_some_iff] at hco
      obtain ⟨x', hx, hco⟩ := hco
      cases hco
      have rx := x_rep he hx
      simp only [K.target, invOf] at h
      split at h
      · rename_i t ht
        split at ht
        · rename_i ti vi hxi
          split at ht
          · rename_i p hp
            cases ht
            rw [hxi] at rx
            generalize hrv : a.eval rv = pv at rx
            cases rx with
            | iface _ _ u ru =>
            obtain ⟨tp, fp⟩ := p
            have hte : tp = ti := by
              have := List.find?_some hp
              exact Nat.eq_of_beq_eq_true this
            subst hte
            have hm := tab_ok (w := w) hp u
            obtain ⟨hfine, hcall⟩ := hcf _ _ _ _ h
            have hfine : Fine P fp := hfine
            have hrun : (do let d ← resolve a.eval c o.type; invoke d.target d.args : Sem Next).run P w = .ok (.enter fp (#[u] ++ c.args.map a.eval)) w := by
              have hext : (#[Value.iface tp u] ++ c.args.map a.eval).extract 1 (#[Value.iface tp u] ++ c.args.map a.eval).size = c.args.map a.eval := by
                apply Array.toList_inj.1; simp; exact List.take_of_length_le (by simp)
              have h0 : (#[Value.iface tp u] ++ c.args.map a.eval)[0]? = some (Value.iface tp u) := by rw [Array.getElem?_append_left (by simp)]; rfl
              simp only [resolve, hcl, hrv, Sem.run_bind, Sem.run_pure, Result.andThen_ok, invoke, h0, hext, callMethod, run_program, hm, callFunc_ok hfine]
            rw [hrun]
            have hl : (#[u] : Array Value).toList = [u] := rfl
            exact upon_enter (hcall ι w _ hK hr (reps_arr (as := [vi]) (x := #[u]) (reps_cons ru reps_nil) hargs)) hn
          · cases ht
        · cases ht
      · cases h
    | value f =>
      rw [hcl] at hco
      cases f with
      | func f =>
        simp only at hco
        split at hco
        · cases hco
          simp only [K.target] at h
          obtain ⟨hfine, hcall⟩ := hcf _ _ _ _ h
          have hrun : (do let d ← resolve a.eval c o.type; invoke d.target d.args : Sem Next).run P w = .ok (.enter f (c.args.map a.eval)) w := by
            simp only [resolve, hcl, Act.eval, Deferred.ofValue, Sem.run_bind, Sem.run_pure, Result.andThen_ok, invoke, Array.append_empty, Array.empty_append, callFunc_ok hfine]
          rw [hrun]
          exact upon_enter (hcall ι w _ hK hr hargs) hn
        · cases hco
          simp only [K.target] at h
          obtain ⟨u, w', ι', h1, h2, h3, h4⟩ := hcf _ _ _ _ h ι w _ hK hr hargs
          have hrun : (do let d ← resolve a.eval c o.type; invoke d.target d.args : Sem Next).run P w = .ok (.value u) w' := by
            simp only [resolve, hcl, Act.eval, Deferred.ofValue, Sem.run_bind, Sem.run_pure, Result.andThen_ok, invoke, Array.append_empty, Array.empty_append, h1]
          rw [hrun]
          exact hn u w' ι' h2 h3 h4
      | _ =>
        simp only [Option.bind_eq_some_iff] at hco
        obtain ⟨x', hx, hco⟩ := hco
        cases hco
        have rx := x_rep he hx
        simp only [K.target, valOf] at h
        split at h
        · rename_i t ht
          split at ht
          · rename_i g u1 u2 hfe
            cases ht
            rw [hfe] at rx
            generalize hpv : a.eval _ = pv at rx
            cases rx with
            | fn _ _ _ a' b' e1 e2 e3 e4 =>
            obtain ⟨hfine, hcall⟩ := hcf _ _ _ _ h
            have hrun : (do let d ← resolve a.eval c o.type; invoke d.target d.args : Sem Next).run P w = .ok (.enter g (a' ++ c.args.map a.eval ++ b')) w := by
              simp only [resolve, hcl, hpv, Deferred.ofValue, Sem.run_bind, Sem.run_pure, Result.andThen_ok, invoke, callFunc_ok hfine]
            rw [hrun]
            exact upon_enter (hcall ι w _ hK hr (reps_arr (reps_arr (reps_of e1 e3) hargs) (reps_of e2 e4))) hn
          · rename_i nn hfe
            cases ht
            rw [hfe] at rx
            generalize hpv : a.eval _ = pv at rx
            cases rx with
            | yl _ l hl =>
            obtain ⟨fn, tmps, assign, body, hy, hround⟩ := hcf _ _ _ _ h ι w _ l hK hr hargs hl
            have hrun : (do let d ← resolve a.eval c o.type; invoke d.target d.args : Sem Next).run P w = .ok (.round l.blk fn tmps assign body) w := by
              simp only [resolve, hcl, hpv, Deferred.ofValue, Sem.run_bind, Sem.run_pure, Result.andThen_ok, invoke, Array.empty_append, hy]
            rw [hrun, Oper.uponIn_round]
            refine ⟨fun h => (by cases h), RoundIn.mono (hround r _) ?_⟩
            rintro e1 w1 ⟨u, ι1, rfl, q1, q2, q3⟩
            exact hn u w1 ι1 q1 q2 q3
          · cases ht
        · cases h

theorem wanted_eq {ops : Array Oper} {M : Nat → Prop} (he : ∀ t, Rep ι M w (e.rd t) (a.tmps.getD t undef)) {j t : Nat} (want : Bool) (ht : (ops[j]?).bind (·.dst) = some t) :
    (yielded ops a.tmps j == some want) = wanted e (some (t, want)) := by
  have h := he t
  unfold yielded wanted
  rw [ht]
  simp only [Option.bind_some]
  rcases Nat.lt_or_ge t a.tmps.size with hlt | hge
  · have h2 : a.tmps.getD t undef = a.tmps[t] := by simp [hlt]
    rw [h2] at h
    rw [Array.getElem?_eq_getElem hlt]
    generalize a.tmps[t] = q at h
    generalize e.rd t = z at h
    cases h <;> first | rfl | simp
  · have h2 : a.tmps.getD t undef = undef := by simp [hge]
    rw [h2] at h
    rw [Array.getElem?_eq_none hge]
    generalize e.rd t = z at h
    unfold undef at h
    cases h
    rfl

/-- Marks among what is deferred: their blocks are nobody's, and hold nothing. -/
structure DefOk (lo : Nat) (ι : Nm) (s : St) (w : World) (ds : List Deferred) : Prop where
  nd : (ds.map fun d => match d.target with | .collected r => r | _ => 0).Nodup
  at_ : ∀ d ∈ ds, ∃ r, d.target = .collected r ∧ w.heap[r]? = some (.deferred (some [])) ∧ ¬ Mut ι s r ∧ lo ≤ r
theorem DefOk.mono {lo : Nat} {ds : List Deferred} {ι' : Nm} (h : Nxt ι s w ι' s' w') (hd : DefOk lo ι s w ds) : DefOk lo ι' s' w' ds :=
  ⟨hd.nd, fun d hm => by
    obtain ⟨r, h1, h2, h3, h4⟩ := hd.at_ d hm
    have hlt : r < w.heap.size := (Array.getElem?_eq_some_iff.1 h2).1
    exact ⟨r, h1, by rw [h.keep r hlt h3]; exact h2, h.notMut h3 hlt, h4⟩⟩

/-- How an activation stands. -/
structure ARel (P : Program) (lo d : Nat) (ι : Nm) (s : St) (w : World) (e : Env) (a : Act) : Prop where
  kk : ι.K = KOf P
  ll : lo ≤ w.heap.size
  rel : Rel ι s w
  env : REnv d ι (Mut ι s) w e a.tmps
  dfr : DefOk lo ι s w a.defers

theorem ARel.step {lo : Nat} {ι' : Nm} (h : ARel P lo d ι s w e a) (h1 : Rel ι' s' w') (h2 : Nxt ι s w ι' s' w') {dst : Option Nat} (hlt : ∀ t, dst = some t → t < a.tmps.size) {u : Value} (hv : Rep ι' (Mut ι' s') w' v u) :
    ARel P lo d ι' s' w' (putd e dst v) (a.put dst u) := by
  cases dst with
  | none => exact ⟨h2.k.trans h.kk, Nat.le_trans h.ll h2.size, h1, h.env.mono h2, h.dfr.mono h2⟩
  | some t => exact ⟨h2.k.trans h.kk, Nat.le_trans h.ll h2.size, h1, (h.env.mono h2).wr (hlt t rfl) hv, h.dfr.mono h2⟩
theorem ARel.skip {lo : Nat} (h : ARel P lo d ι s w e a) {dst : Option Nat} (hlt : ∀ t, dst = some t → t < a.tmps.size) : ARel P lo d ι s w (putd e dst .undef) (a.put dst undef) :=
  h.step h.rel (Nxt.refl _ _ _) hlt rep_undef
theorem put_size (a : Act) (dst : Option Nat) (u : Value) : (a.put dst u).tmps.size = a.tmps.size := by
  cases dst <;> simp [Act.put]

theorem opsRun_cons {cf : Tgt → St → OutV} (o : O) (l : List O) (e : Env) (s : St) : opsRun cf (o :: l) e s =
    bif wanted e o.parts.2.1 then (match opRun cf e s o.parts.2.2 with
      | .ok v s => opsRun cf l (putd e o.parts.1 v) s
      | .no => .no)
    else opsRun cf l (putd e o.parts.1 .undef) s := by
  cases o <;> rfl

/-- What an operation of the machine's is made of. -/
theorem oOf_parts (ops : Array Oper) (o : Oper) : (∃ y, oOf P rows ops o = .u (.bad y)) ∨
    ((oOf P rows ops o).parts.1 = o.dst ∧ (kOf P rows o = some (oOf P rows ops o).parts.2.2 ∨ ∃ y, (oOf P rows ops o).parts.2.2 = .bad y) ∧
      ((o.guard = none ∧ (oOf P rows ops o).parts.2.1 = none) ∨ ∃ j want t, o.guard = some (j, want) ∧ (ops[j]?).bind (·.dst) = some t ∧ (oOf P rows ops o).parts.2.1 = some (t, want))) := by
  have key : ∀ k, (kOf P rows o).getD (.bad o.pos) = k → kOf P rows o = some k ∨ ∃ y, k = .bad y := by
    intro k h
    cases hk : kOf P rows o with
    | none => rw [hk] at h; exact .inr ⟨_, h.symm⟩
    | some k' => rw [hk] at h; cases h; exact .inl rfl
  unfold oOf
  cases hg : o.guard with
  | none =>
    simp only
    cases hd : o.dst <;> exact .inr ⟨rfl, key _ rfl, .inl (by simp [O.parts])⟩
  | some jw =>
    obtain ⟨j, want⟩ := jw
    simp only
    cases ht : (ops[j]?).bind (·.dst) with
    | none => exact .inl ⟨_, rfl⟩
    | some t =>
      cases hd : o.dst <;> exact .inr ⟨rfl, key _ rfl, .inr ⟨j, want, t, by simp, ht, rfl⟩⟩

theorem wanted_same (ops : Array Oper) {M : Nat → Prop} (he : ∀ t, Rep ι M w (e.rd t) (a.tmps.getD t undef)) {g : Option (Nat × Bool)}
    (h : (o.guard = none ∧ g = none) ∨ ∃ j want t, o.guard = some (j, want) ∧ (ops[j]?).bind (·.dst) = some t ∧ g = some (t, want)) : Region.wanted o (yielded ops a.tmps) = wanted e g := by
  rcases h with ⟨h1, rfl⟩ | ⟨j, want, t, h1, h2, rfl⟩
  · simp [Region.wanted, h1, wanted]
  · rw [← wanted_eq he want h2]; simp [Region.wanted, h1]

theorem opRun_bad {cf : Tgt → St → OutV} {y : String} (h : opRun cf e s (.bad y) = .ok v s') : False := by
  simp only [opRun, K.isCall, cond_false, kst] at h
  cases h

/-- A region in order. -/
theorem reg_sound {lo : Nat} {cf : Tgt → St → OutV} (hcf : CfOk P cf) {ops : Array Oper} {r : Option Nat} {n : Nat} {Q : Exit → Act → World → Prop} {x : Ex} {e' : Env} :
    ∀ (l : List Oper) (ι : Nm) (s : St) (w : World) (e : Env) (a : Act), (∀ o ∈ l, ∀ t, o.dst = some t → t < a.tmps.size) → opsRun cf (l.map (oOf P rows ops)) e s = .ok x e' s' → ARel P lo d ι s w e a →
      (∀ ι' w' a', x = .norm → ARel P lo d ι' s' w' e' a' → Nxt ι s w ι' s' w' → a'.tmps.size = a.tmps.size → a'.defers = a.defers → Q .normal a' w') → wpListIn (FW r) n P ops Q l a w := by
  intro l
  induction l with
  | nil =>
    intro ι s w e a _ h ha hq
    simp only [List.map_nil, opsRun] at h
    cases h
    exact hq ι w a rfl ha (Nxt.refl _ _ _) rfl rfl
  | cons o l ih =>
    intro ι s w e a hlt h ha hq
    rw [List.map_cons, opsRun_cons] at h
    rcases oOf_parts (P := P) (rows := rows) ops o with ⟨y, hb⟩ | ⟨hd, hk, hg⟩
    · rw [hb] at h
      simp only [O.parts, wanted, cond_true] at h
      split at h
      · rename_i hop; exact (opRun_bad hop).elim
      · cases h
    · rw [hd] at h
      have hw := wanted_same (a := a) (o := o) ops ha.env.all hg
      unfold wpListIn
      rw [hw]
      cases hwe : wanted e (oOf P rows ops o).parts.2.1 with
      | true =>
        rw [hwe] at h
        simp only [cond_true] at h
        simp only [if_true]
        cases hop : opRun cf e s (oOf P rows ops o).parts.2.2 with
        | no => rw [hop] at h; cases h
        | ok v1 s1 =>
          rw [hop] at h
          rcases hk with hk | ⟨y, hb⟩
          · refine op_sound hcf ha.kk ha.rel ha.env hk hop ?_
            intro u w1 ι1 h1 h2 h3
            refine ih ι1 s1 w1 _ _ (fun o' ho' t ht => by rw [put_size]; exact hlt o' (List.mem_cons_of_mem _ ho') t ht) h (ha.step h1 h2 (hlt o List.mem_cons_self) h3) ?_
            intro ι' w' a' hx q1 q2 q3 q4
            exact hq ι' w' a' hx q1 (h2.trans q2) (by rw [q3, put_size]) (by rw [q4]; cases o.dst <;> rfl)
          · rw [hb] at hop; exact (opRun_bad hop).elim
      | false =>
        rw [hwe] at h
        simp only [cond_false] at h
        simp only [Bool.false_eq_true, if_false]
        refine ⟨fun _ _ => trivial, ?_⟩
        refine ih ι s w _ _ (fun o' ho' t ht => by rw [put_size]; exact hlt o' (List.mem_cons_of_mem _ ho') t ht) h (ha.skip (hlt o List.mem_cons_self)) ?_
        intro ι' w' a' hx q1 q2 q3 q4
        exact hq ι' w' a' hx q1 q2 (by rw [q3, put_size]) (by rw [q4]; cases o.dst <;> rfl)
end
end Go.Hx

/- Regions that draw their order: what the machine does in them. -/
namespace Go.Hx
set_option autoImplicit false

/-! ### An operation hangs on what it names alone -/
theorem evs_agree {e e' : Env} : ∀ {l : List X}, (∀ x ∈ l, x.ev e = x.ev e') → evs e l = evs e' l := by
  intro l
  induction l with
  | nil => intro _; rfl
  | cons x l ih => intro h; simp only [evs]; rw [h x List.mem_cons_self, ih (fun y hy => h y (List.mem_cons_of_mem _ hy))]
theorem evParts_agree {e e' : Env} : ∀ {l : List (Nat × Nat × X)}, (∀ x ∈ l.map (·.2.2), x.ev e = x.ev e') → evParts e l = evParts e' l := by
  intro l
  induction l with
  | nil => intro _; rfl
  | cons x l ih =>
    intro h
    obtain ⟨a, b, x⟩ := x
    simp only [evParts]
    rw [h x (by simp), ih (fun y hy => h y (by simp only [List.map_cons]; exact List.mem_cons_of_mem _ hy))]
theorem evElems_agree {e e' : Env} (sz : Nat) : ∀ {l : List (Nat × X)}, (∀ x ∈ l.map (·.2), x.ev e = x.ev e') → evElems e sz l = evElems e' sz l := by
  intro l
  induction l with
  | nil => intro _; rfl
  | cons x l ih =>
    intro h
    obtain ⟨a, x⟩ := x
    simp only [evElems]
    rw [h x (by simp), ih (fun y hy => h y (by simp only [List.map_cons]; exact List.mem_cons_of_mem _ hy))]
theorem bound_agree {e e' : Env} {o : Option X} (d : Nat) (h : ∀ x ∈ o.toList, x.ev e = x.ev e') : bound e o d = bound e' o d := by
  cases o with
  | none => rfl
  | some x => simp only [bound]; rw [h x (by simp)]
theorem sub_agree {e e' : Env} {s : St} (sz : Nat) (v : AV) {lo hi mx : Option X} (h1 : ∀ x ∈ lo.toList, x.ev e = x.ev e') (h2 : ∀ x ∈ hi.toList, x.ev e = x.ev e') (h3 : ∀ x ∈ mx.toList, x.ev e = x.ev e') :
    sub e s sz v lo hi mx = sub e' s sz v lo hi mx := by
  unfold sub
  cases hs : slen v with
  | none => rfl
  | some n =>
    simp only
    rw [bound_agree 0 h1, bound_agree n h2]
    cases mx with
    | none => rfl
    | some m => have hm := h3 m (by simp); simp only [hm]
theorem kst_agree {e e' : Env} {s : St} {k : K} (h : ∀ x ∈ k.xs, x.ev e = x.ev e') : kst e s k = kst e' s k := by
  cases k
  case sub sz x lo hi mx =>
    simp only [K.xs, List.mem_cons, List.mem_append] at h
    simp only [kst]
    rw [h x (.inl rfl)]
    have h1 : ∀ x ∈ lo.toList, x.ev e = x.ev e' := fun x hx => h x (.inr (.inl (.inl hx)))
    have h2 : ∀ x ∈ hi.toList, x.ev e = x.ev e' := fun x hx => h x (.inr (.inl (.inr hx)))
    have h3 : ∀ x ∈ mx.toList, x.ev e = x.ev e' := fun x hx => h x (.inr (.inr hx))
    unfold oSub
    cases mx with
    | none => simp only; rw [sub_agree sz _ h1 h2 h3]
    | some m =>
      simp only
      split
      · split
        · rw [sub_agree sz _ h1 h2 h3]
        · rfl
      · rw [sub_agree sz _ h1 h2 h3]
  case subs x lo hi =>
    simp only [K.xs, List.mem_cons, List.mem_append] at h
    simp only [kst]
    rw [h x (.inl rfl)]
    unfold oSubs
    split
    · rw [bound_agree 0 (fun x hx => h x (.inr (.inl hx))), bound_agree _ (fun x hx => h x (.inr (.inr hx)))]
    · rfl
  case build z ps => simp only [K.xs] at h; simp only [kst]; rw [evParts_agree h]
  case bsl sz z n ps => simp only [K.xs] at h; simp only [kst]; rw [evElems_agree sz h]
  case bsr t sz z n ps => simp only [K.xs] at h; simp only [kst]; rw [evElems_agree sz h]
  case mkfn f a b =>
    simp only [K.xs, List.mem_append] at h
    simp only [kst]
    rw [evs_agree (fun x hx => h x (.inl hx)), evs_agree (fun x hx => h x (.inr hx))]
  case mm g as => simp only [K.xs] at h; simp only [kst]; rw [evs_agree h]
  case pick c a b =>
    simp only [K.xs, List.mem_cons, List.not_mem_nil, or_false, forall_eq_or_imp, forall_eq] at h
    simp only [kst, oPick]; rw [h.1, h.2.1, h.2.2]
  case mset g ks m k v =>
    simp only [K.xs, List.mem_cons, List.not_mem_nil, or_false, forall_eq_or_imp, forall_eq] at h
    simp only [kst]; rw [h.1, h.2.1, h.2.2]
  case mv x => simp only [K.xs, List.mem_cons, List.not_mem_nil, or_false, forall_eq] at h; simp only [kst, oMv]; rw [h]
  all_goals first
    | rfl
    | (simp only [K.xs, List.mem_cons, List.not_mem_nil, or_false, forall_eq] at h
       simp only [kst]; rw [h]; done)
    | (simp only [K.xs, List.mem_cons, List.not_mem_nil, or_false, forall_eq_or_imp, forall_eq] at h
       simp only [kst]; rw [h.1, h.2])
theorem target_agree {e e' : Env} {k : K} (h : ∀ x ∈ k.xs, x.ev e = x.ev e') : k.target e = k.target e' := by
  cases k
  case call f as => simp only [K.xs] at h; simp only [K.target]; rw [evs_agree h]
  case ecall f as => simp only [K.xs] at h; simp only [K.target]; rw [evs_agree h]
  case callv f as =>
    simp only [K.xs, List.mem_cons, forall_eq_or_imp] at h
    simp only [K.target]; rw [h.1, evs_agree h.2]
  case inv r tab as =>
    simp only [K.xs, List.mem_cons, forall_eq_or_imp] at h
    simp only [K.target]; rw [h.1, evs_agree h.2]
  all_goals rfl
theorem opRun_agree {cf : Tgt → St → OutV} {e e' : Env} {s : St} {k : K} (h : ∀ x ∈ k.xs, x.ev e = x.ev e') : opRun cf e s k = opRun cf e' s k := by
  unfold opRun
  rw [kst_agree h, target_agree h]

/-! ### What looks, and what makes -/
theorem oVal_st {s s' : St} {r : Option AV} {v : AV} (h : oVal s r = .ok v s') : s' = s := by
  cases r with
  | none => cases h
  | some x => cases h; rfl
/-- the same, in another state -/
def OutV.re (s : St) : OutV → OutV
  | .ok v _ => .ok v s
  | .no => .no
theorem oVal_re (s s2 : St) (r : Option AV) : oVal s2 r = (oVal s r).re s2 := by cases r <;> rfl
theorem bif_re (s2 : St) {b : Bool} {x y : OutV} (h : x = y.re s2) : (bif b then x else .no) = (bif b then y else .no : OutV).re s2 := by cases b <;> first | rfl | exact h
theorem kst_re {e : Env} {k : K} (hp : k.pure = true) (s s2 : St) : kst e s2 k = (kst e s k).re s2 := by
  cases k
  case conv c x =>
    cases c <;> first | (simp [K.pure] at hp; done) | skip
    · simp only [kst, oConv]; generalize x.ev e = v; cases v <;> rfl
    · simp only [kst, oConv]; generalize x.ev e = v; cases v <;> rfl
  case pick c a b => simp only [kst, oPick]; generalize c.ev e = v; cases v <;> rfl
  case build z ps => simp only [kst, oBuild]; cases fill z (evParts e ps) <;> rfl
  case bsl sz z n ps => simp only [kst, oBsl]; cases fill (repl n z) (evElems e sz ps) <;> rfl
  case nck x => simp only [kst, oNck]; generalize x.ev e = v; cases v <;> rfl
  case bin op x y => simp only [kst]; exact oVal_re _ _ _
  case un op x => simp only [kst]; exact oVal_re _ _ _
  case eqs ks g x y => simp only [kst, oEqs]; cases eqAgg ks (x.ev e) (y.ev e) <;> rfl
  case subs x lo hi =>
    simp only [kst, oSubs]
    generalize x.ev e = v
    cases v <;> first | rfl | skip
    simp only [oSubs2]
    cases bound e lo 0 <;> cases bound e hi _ <;> first | rfl | exact bif_re s2 rfl
  case fad o x => simp only [kst, oFad]; generalize x.ev e = v; cases v <;> rfl
  case fld g o n x =>
    simp only [kst, oFld]
    generalize x.ev e = v
    cases v <;> first | rfl | exact bif_re s2 (oVal_re _ _ _)
  case iaa sz len x i =>
    simp only [kst, oIaa]
    cases nat? (i.ev e) <;> first | rfl | skip
    generalize x.ev e = v
    cases v <;> first | rfl | exact bif_re s2 rfl
  case ixa g sz len x i =>
    simp only [kst, oIxa]
    cases nat? (i.ev e) <;> first | rfl | skip
    generalize x.ev e = v
    cases v <;> first | rfl | exact bif_re s2 (oVal_re _ _ _)
  case ixs x i =>
    simp only [kst, oIxs]
    cases nat? (i.ev e) <;> first | rfl | skip
    generalize x.ev e = v
    cases v <;> first | rfl | exact bif_re s2 rfl
  case tas x t z ok =>
    simp only [kst, oTas]
    generalize x.ev e = v
    cases v <;> first | rfl | skip
    · rename_i u v; simp only; cases u.beq t <;> cases ok <;> rfl
    · exact bif_re s2 rfl
  case ext x i =>
    simp only [kst, oExt]
    generalize x.ev e = v
    cases v <;> first | rfl | exact oVal_re _ _ _
  case len x => simp only [kst, oLen, oNat]; cases slen (x.ev e) <;> rfl
  case lens x => simp only [kst, oLens]; generalize x.ev e = v; cases v <;> rfl
  case cap x =>
    simp only [kst, oCap]
    generalize x.ev e = v
    cases v <;> first | rfl | (rename_i f xs; cases f <;> rfl)
  case mm g as =>
    simp only [kst, oMm]
    cases evs e as <;> first | rfl | exact oVal_re _ _ _
  all_goals first
    | rfl
    | (simp [K.pure] at hp; done)
theorem pure_any {e : Env} {s s' : St} {k : K} {v : AV} (hp : k.pure = true) (h : kst e s k = .ok v s') (s2 : St) : kst e s2 k = .ok v s2 := by
  rw [kst_re hp s s2, h]; rfl
theorem reads_st {e : Env} {s s' : St} {k : K} {v : AV} (hp : k.reads = true) (h : kst e s k = .ok v s') : s' = s := by
  cases k
  case conv c x =>
    cases c <;> first | (simp [K.reads] at hp; done) | skip
    · simp only [kst, oConv] at h
      split at h
      · cases h; rfl
      · split at h
        · obtain ⟨_, h⟩ := bif_out h; cases h; rfl
        · cases h
      · cases h
    · simp only [kst, oConv] at h
      split at h
      · cases h; rfl
      · cases h
  case sub sz x lo hi mx =>
    cases mx with
    | none => exact oVal_st h
    | some m => simp [K.reads] at hp
  case load g sz x => exact oVal_st h
  case eqt c g x y =>
    simp only [kst, oEqs] at h
    split at h
    · cases h; rfl
    · cases h
  case iad sz x i =>
    simp only [kst, oIad] at h
    split at h
    · cases h
    · split at h
      · split at h
        · obtain ⟨_, h⟩ := bif_out h; cases h; rfl
        · cases h
      · obtain ⟨_, h⟩ := bif_out h
        unfold cond at h
        split at h
        · cases h; rfl
        · split at h
          · split at h
            · cases h; rfl
            · cases h
          · split at h
            · cases h; rfl
            · cases h
          · cases h
      · cases h
  case look g ks x k z ok =>
    simp only [kst, oLook] at h
    split at h
    · split at h
      · obtain ⟨_, h⟩ := bif_out h
        unfold oFound at h
        split at h
        · cases h; rfl
        · cases h; rfl
        · cases h
      · cases h
    · cases h
  case sdata x =>
    simp only [kst, oSdata] at h
    split at h
    · cases h; rfl
    · obtain ⟨_, h⟩ := bif_out h; cases h; rfl
    · cases h
  all_goals (simp [K.reads] at hp; done)
theorem pure_st {e : Env} {s s' : St} {k : K} {v : AV} (hp : k.pure = true ∨ k.reads = true) (h : kst e s k = .ok v s') : s' = s := by
  rcases hp with hp | hp
  · have := pure_any hp h s
    rw [h] at this; cases this; rfl
  · exact reads_st hp h
theorem mkAt_kst {e : Env} {r : Nat} {k : K} {v : AV} {b : Blk} (h : mkAt e r k = some (v, b)) {s : St} (hs : s.res = some r) : kst e s k = .ok v (s.add b) := by
  have hn : s.nm = r := by unfold St.nm; rw [hs]
  cases k
  case conv c x =>
    cases c <;> simp only [mkAt] at h <;> first | (cases h; done) | skip
    split at h
    · rename_i b hb; cases h; simp only [kst, oConv, hb, hn]
    · cases h
  case bsr t sz z n ps =>
    simp only [mkAt] at h
    split at h
    · rename_i cs hcs; cases h; simp only [kst, oBsr, hcs, hn]
    · cases h
  case mksl t sz by_ z l c =>
    simp only [mkAt] at h
    split at h
    · rename_i a b ha hb
      obtain ⟨hc, h⟩ := bif_some h
      cases h
      simp only [kst, oMksl, ha, hb, hc, cond_true, hn]
    · cases h
  all_goals first
    | (simp only [mkAt] at h; cases h; done)
    | (simp only [mkAt] at h; cases h; simp only [kst, oNewVar, hn])
end Go.Hx

/- Regions that draw their order: who comes after whom; the machine's own way through. -/
namespace Go.Hx
set_option autoImplicit false

/-! ### Ancestors -/
def bRow (acc : Array Nat) (o : Oper) : Nat := o.after.foldl (fun s e => if Region.binds .any e then s ||| 2 ^ e.on ||| acc.getD e.on 0 else s) 0
theorem bRow_bit {acc : Array Nat} {o : Oper} {j : Nat} (h : (bRow acc o).testBit j = true) : ∃ e ∈ o.after, Region.binds .any e = true ∧ (j = e.on ∨ (acc.getD e.on 0).testBit j = true) := by
  unfold bRow at h
  rw [← Array.foldl_toList] at h
  have key : ∀ (l : List Edge) (s : Nat), (l.foldl (fun s e => if Region.binds .any e then s ||| 2 ^ e.on ||| acc.getD e.on 0 else s) s).testBit j = true →
      s.testBit j = true ∨ ∃ e ∈ l, Region.binds .any e = true ∧ (j = e.on ∨ (acc.getD e.on 0).testBit j = true) := by
    intro l
    induction l with
    | nil => intro s h; exact .inl h
    | cons x l ih =>
      intro s h
      rw [List.foldl_cons] at h
      rcases ih _ h with h1 | ⟨e, he, h1⟩
      · by_cases hb : Region.binds .any x = true
        · rw [if_pos hb] at h1
          simp only [Nat.testBit_or, Bool.or_eq_true, Nat.testBit_two_pow, decide_eq_true_eq] at h1
          rcases h1 with (h1 | h1) | h1
          · exact .inl h1
          · exact .inr ⟨x, List.mem_cons_self, hb, .inl h1.symm⟩
          · exact .inr ⟨x, List.mem_cons_self, hb, .inr h1⟩
        · rw [if_neg hb] at h1; exact .inl h1
      · exact .inr ⟨e, List.mem_cons_of_mem _ he, h1⟩
  rcases key _ _ h with h | ⟨e, he, h⟩
  · simp at h
  · exact ⟨e, by simpa using he, h⟩
theorem before_list (l : List Oper) : ∀ (acc : Array Nat), (l.foldl (fun acc o => acc.push (bRow acc o)) acc).size = acc.size + l.length ∧
    (∀ i, i < acc.size → (l.foldl (fun acc o => acc.push (bRow acc o)) acc).getD i 0 = acc.getD i 0) ∧
    (∀ k o, l[k]? = some o → ∃ acc' : Array Nat, acc'.size = acc.size + k ∧ (∀ i, i < acc'.size → (l.foldl (fun acc o => acc.push (bRow acc o)) acc).getD i 0 = acc'.getD i 0) ∧ (l.foldl (fun acc o => acc.push (bRow acc o)) acc).getD (acc.size + k) 0 = bRow acc' o) := by
  induction l with
  | nil => intro acc; exact ⟨rfl, fun _ _ => rfl, fun k o h => by simp at h⟩
  | cons x l ih =>
    intro acc
    obtain ⟨h1, h2, h3⟩ := ih (acc.push (bRow acc x))
    simp only [Array.size_push] at h1 h2 h3
    refine ⟨by rw [List.foldl_cons, h1, List.length_cons]; omega, fun i hi => ?_, fun k o hk => ?_⟩
    · rw [List.foldl_cons, h2 i (by omega)]
      simp [Array.getElem?_push, Nat.ne_of_lt hi]
    · cases k with
      | zero =>
        simp only [List.getElem?_cons_zero, Option.some.injEq] at hk
        subst hk
        refine ⟨acc, rfl, fun i hi => ?_, ?_⟩
        · rw [List.foldl_cons, h2 i (by omega)]
          simp [Array.getElem?_push, Nat.ne_of_lt hi]
        · rw [List.foldl_cons, Nat.add_zero, h2 _ (by omega)]
          simp
      | succ k =>
        rw [List.getElem?_cons_succ] at hk
        obtain ⟨acc', q1, q2, q3⟩ := h3 k o hk
        refine ⟨acc', by omega, fun i hi => by rw [List.foldl_cons]; exact q2 i hi, ?_⟩
        rw [List.foldl_cons]
        rw [show acc.size + (k + 1) = acc.size + 1 + k by omega]
        exact q3
theorem ancs_bit {ops : Array Oper} {i j : Nat} {o : Oper} (ho : ops[i]? = some o) (h : ((ancs ops).getD i 0).testBit j = true) :
    ∃ e ∈ o.after, Region.binds .any e = true ∧ (j = e.on ∨ (e.on < i ∧ ((ancs ops).getD e.on 0).testBit j = true)) := by
  have e1 : Region.before ops = ops.toList.foldl (fun acc o => acc.push (bRow acc o)) #[] := by
    unfold Region.before
    rw [← Array.foldl_toList]
    rfl
  have e2 : ∀ i, (ancs ops).getD i 0 = (Region.before ops).getD i 0 := by
    intro i
    unfold ancs
    simp [List.getD_eq_getElem?_getD]
  obtain ⟨_, _, h3⟩ := before_list ops.toList #[]
  obtain ⟨acc', q1, q2, q3⟩ := h3 i o (by simpa using ho)
  rw [e2, e1] at h
  simp only [List.size_toArray, List.length_nil, Nat.zero_add] at q1 q3
  rw [q3] at h
  obtain ⟨e, he, hb, hj⟩ := bRow_bit h
  refine ⟨e, he, hb, ?_⟩
  rcases hj with hj | hj
  · exact .inl hj
  · rcases Nat.lt_or_ge e.on acc'.size with hlt | hge
    · refine .inr ⟨by omega, ?_⟩
      rw [e2, e1, q2 _ hlt]; exact hj
    · rw [Array.getD_eq_getD_getElem?, Array.getElem?_eq_none hge] at hj
      simp at hj

/-- What is listed brings along what it hangs on. -/
def Closed (ops : Array Oper) (lst : Array Bool) : Prop := ∀ i o, ops[i]? = some o → lst.getD i false = true → ∀ e ∈ o.after, Region.binds .any e = true → lst.getD e.on false = true
theorem anc_listed {ops : Array Oper} {lst : Array Bool} (hc : Closed ops lst) : ∀ (i : Nat) (o : Oper) (j : Nat), ops[i]? = some o → (∀ e ∈ o.after, Region.binds .any e = true → lst.getD e.on false = true) →
    ((ancs ops).getD i 0).testBit j = true → lst.getD j false = true := by
  intro i
  induction i using Nat.strongRecOn with
  | _ i ih =>
    intro o j ho hall h
    obtain ⟨e, he, hb, hj⟩ := ancs_bit ho h
    rcases hj with rfl | ⟨hlt, hj⟩
    · exact hall e he hb
    · have hi := (Array.getElem?_eq_some_iff.1 ho).1
      have ho' : ops[e.on]? = some ops[e.on] := Array.getElem?_eq_getElem (by omega)
      exact ih e.on hlt _ j ho' (hc e.on _ ho' (hall e he hb)) hj

/-! ### The machine's own way through -/
structure It where
  d : D
  w : Bool
  v : AV
  hi : Nat
  mkb : Option (Nat × Blk)
abbrev It.o (it : It) : O := it.d.o
abbrev It.k (it : It) : K := it.d.o.parts.2.2
abbrev It.dst (it : It) : Option Nat := it.d.o.parts.1
abbrev It.ch (it : It) : Bool := it.d.isCh
def putIt (e : Env) (it : It) : Env := putd e it.dst it.v
def addM (s : St) (ms : List (Nat × Blk)) : St := ms.foldl (fun s p => s.put p.1 (some p.2)) s
def mkrs (its : List It) (c : Nat) : List (Nat × Blk) := its.filterMap fun it => if it.hi = c then it.mkb else none
def chs (its : List It) : Nat := its.countP fun it => it.ch

structure ItOk (cf : Tgt → St → OutV) (T : Nat → St) (base : Nat) (e0 : Env) (A : List It) (it : It) : Prop where
  hi : it.hi = chs A
  w : it.w = wanted (A.foldl putIt e0) it.o.parts.2.1
  no : it.w = false → it.v = .undef ∧ it.mkb = none
  nch : it.w = false → it.ch = true → T (it.hi + 1) = addM (T it.hi) (mkrs A it.hi)
  ch : it.w = true → it.ch = true → it.mkb = none ∧ opRun cf (A.foldl putIt e0) (addM (T it.hi) (mkrs A it.hi)) it.k = .ok it.v (T (it.hi + 1))
  mkr : it.w = true → it.ch = false → it.k.makes = true → ∃ b, it.mkb = some (base + A.countP (fun x => x.d.isMaker), b) ∧ mkAt (A.foldl putIt e0) (base + A.countP (fun x => x.d.isMaker)) it.k = some (it.v, b)
  fl : it.w = true → it.ch = false → it.k.makes = false → it.mkb = none ∧ (it.k.pure = true ∨ it.k.reads = true) ∧ ∀ j, it.d.lo ≤ j → j ≤ it.hi → kst (A.foldl putIt e0) (T j) it.k = .ok it.v (T j)

/-- Values that are equal by the machine's own test are equal. -/
theorem avBeq_n : ∀ (n : Nat), (∀ a b : AV, SizeOf.sizeOf a ≤ n → AV.beq a b = true → a = b) ∧ (∀ l m : List AV, SizeOf.sizeOf l ≤ n → AV.beqs l m = true → l = m) := by
  intro n
  induction n with
  | zero =>
    refine ⟨fun a b h => ?_, fun l m h => ?_⟩
    · cases a <;> simp at h
    · cases l <;> simp at h
  | succ n ih =>
    refine ⟨fun a b hs h => ?_, fun l m hs h => ?_⟩
    · cases a <;> cases b <;> simp only [AV.beq, Bool.false_eq_true, Bool.and_eq_true, beq_iff_eq] at h <;> first
        | rfl
        | (subst h; rfl)
        | skip
      case int.int => rw [I.eq_iff] at h; simp only [beq_iff_eq] at h; rw [h.1, h.2]
      case str.str a b =>
        unfold S.eqb at h
        simp only [Bool.and_eq_true] at h
        have h1 := Nat.eq_of_beq_eq_true h.1
        have h2 := Nat.eq_of_beq_eq_true h.2
        cases a; cases b; simp only at h1 h2; subst h1 h2; rfl
      case ptr.ptr => rw [Nat.eq_of_beq_eq_true h.1, Nat.eq_of_beq_eq_true h.2]
      case kp.kp a b => rw [ih.2 a b (by simp at hs; omega) h]
      case sl.sl f a g b => rw [h.1, ih.2 a b (by simp at hs; omega) h.2]
      case vw.vw => rw [Nat.eq_of_beq_eq_true h.1.1, Nat.eq_of_beq_eq_true h.1.2, Nat.eq_of_beq_eq_true h.2]
      case fn.fn f a b g a' b' => rw [Nat.eq_of_beq_eq_true h.1.1, ih.2 a a' (by simp at hs; omega) h.1.2, ih.2 b b' (by simp at hs; omega) h.2]
      case iface.iface t a u b => rw [Nat.eq_of_beq_eq_true h.1, ih.1 a b (by simp at hs; omega) h.2]
      case map.map => rw [Nat.eq_of_beq_eq_true h]
      case yl.yl => rw [Nat.eq_of_beq_eq_true h]
      case agg.agg a b => rw [ih.2 a b (by simp at hs; omega) h]
      case tup.tup a b => rw [ih.2 a b (by simp at hs; omega) h]
    · cases l <;> cases m <;> simp only [AV.beqs, Bool.false_eq_true, Bool.and_eq_true] at h
      · rfl
      · rename_i a l b m
        rw [ih.1 a b (by simp at hs; omega) h.1, ih.2 l m (by simp at hs; omega) h.2]
theorem avBeq (a b : AV) (h : AV.beq a b = true) : a = b := (avBeq_n (SizeOf.sizeOf a)).1 a b (Nat.le_refl _) h

theorem sameAt_ok {e : Env} {k : K} {v : AV} : ∀ {l : List St}, sameAt e k v l = true → ∀ s ∈ l, ∃ s', kst e s k = .ok v s' := by
  intro l
  induction l with
  | nil => intro _ s hs; cases hs
  | cons x l ih =>
    intro h s hs
    simp only [sameAt, Bool.and_eq_true] at h
    rcases List.mem_cons.1 hs with rfl | hs
    · have h1 := h.1
      split at h1
      · rename_i u s' hu
        have := avBeq _ _ h1
        subst this
        exact ⟨s', hu⟩
      · cases h1
    · exact ih h.2 s hs

theorem flRun_ok {ss : List St} {lo : Nat} {e : Env} {k : K} {v : AV} (h : flRun ss lo e k = some v) (T : Nat → St) (c : Nat) (hlen : ss.length = c + 1) (hT : ∀ j, j ≤ c → ss[c - j]? = some (T j)) :
    (k.pure = true ∨ k.reads = true) ∧ ∀ j, lo ≤ j → j ≤ c → kst e (T j) k = .ok v (T j) := by
  unfold flRun at h
  split at h
  · cases h
  · rename_i s l
    split at h
    · rename_i v1 s1 hk
      unfold cond at h
      split at h
      · rename_i hcond
        cases h
        simp only [Bool.or_eq_true, Bool.and_eq_true] at hcond
        rcases hcond with hp | ⟨hp, hs⟩
        · exact ⟨.inl hp, fun j _ _ => pure_any hp hk (T j)⟩
        · refine ⟨.inr hp, fun j h1 h2 => ?_⟩
          have hj := hT j h2
          by_cases he : j = c
          · subst he
            simp only [Nat.sub_self, List.getElem?_cons_zero, Option.some.injEq] at hj
            subst hj
            rw [hk, pure_st (.inr hp) hk]
          · have hcj : c - j = (c - j - 1) + 1 := by omega
            rw [hcj, List.getElem?_cons_succ] at hj
            have hll : l.length = c := by simpa using hlen
            have hmem : T j ∈ l.take (Nat.sub l.length lo) := by
              apply List.mem_of_getElem? (i := c - j - 1)
              rw [List.getElem?_take, if_pos (show c - j - 1 < Nat.sub l.length lo by show c - j - 1 < l.length - lo; omega)]
              exact hj
            obtain ⟨s', hs'⟩ := sameAt_ok hs _ hmem
            rw [hs', pure_st (.inr hp) hs']
      · cases h
    · cases h

theorem chs_snoc (A : List It) (it : It) : chs (A ++ [it]) = chs A + if it.ch = true then 1 else 0 := by
  unfold chs
  rw [List.countP_append]
  simp only [List.countP_cons, List.countP_nil, Nat.zero_add]
theorem mkrs_none {A : List It} {c : Nat} (h : ∀ it ∈ A, it.hi ≠ c) : mkrs A c = [] := by
  unfold mkrs
  rw [List.filterMap_eq_nil_iff]
  intro it hit
  rw [if_neg (h it hit)]
theorem mkrs_snoc (A : List It) (it : It) (c : Nat) : mkrs (A ++ [it]) c = mkrs A c ++ (if it.hi = c then it.mkb.toList else []) := by
  unfold mkrs
  rw [List.filterMap_append]
  congr 1
  simp only [List.filterMap_cons, List.filterMap_nil]
  split
  · rename_i h
    split at h
    · rename_i h2; rw [if_pos h2, h]; rfl
    · rename_i h2; rw [if_neg h2]
  · rename_i p h
    split at h
    · rename_i h2; rw [if_pos h2, h]; rfl
    · cases h

theorem trace_of {cf : Tgt → St → OutV} {base : Nat} {e0 e' : Env} {s' : St} {x : Ex} : ∀ (L : List D) (A : List It) (T : Nat → St) (ss : List St) (r : Nat) (e : Env) (s : St),
    ss.length = chs A + 1 → (∀ j, j ≤ chs A → ss[chs A - j]? = some (T j)) → (∀ it ∈ A, it.hi ≤ chs A) → r = base + A.countP (fun x => x.d.isMaker) → e = A.foldl putIt e0 → s = addM (T (chs A)) (mkrs A (chs A)) →
    drwRun cf L ss r e s = .ok x e' s' → x = .norm ∧ ∃ (T' : Nat → St) (its : List It), (∀ j, j ≤ chs A → T' j = T j) ∧ its.map It.d = L ∧ (∀ B it C, its = B ++ it :: C → ItOk cf T' base e0 (A ++ B) it) ∧
      e' = (A ++ its).foldl putIt e0 ∧ s' = addM (T' (chs (A ++ its))) (mkrs (A ++ its) (chs (A ++ its))) := by
  intro L
  induction L with
  | nil =>
    intro A T ss r e s _ _ _ _ he hs h
    cases h
    refine ⟨rfl, T, [], fun _ _ => rfl, rfl, fun B it C h => by simp at h, by simpa using he, by simpa using hs⟩
  | cons d L ih =>
    intro A T ss r e s hlen hT hA hr he hs h
    have fin : ∀ (it : It) (T1 : Nat → St) (ss1 : List St) (r1 : Nat) (s1 : St), it.d = d → it.hi = chs A → (∀ j, j ≤ chs A → T1 j = T j) → ss1.length = chs (A ++ [it]) + 1 → (∀ j, j ≤ chs (A ++ [it]) → ss1[chs (A ++ [it]) - j]? = some (T1 j)) →
        r1 = base + (A ++ [it]).countP (fun x => x.d.isMaker) → s1 = addM (T1 (chs (A ++ [it]))) (mkrs (A ++ [it]) (chs (A ++ [it]))) → drwRun cf L ss1 r1 (putd e it.dst it.v) s1 = .ok x e' s' →
        (∀ T2 : Nat → St, (∀ j, j ≤ chs (A ++ [it]) → T2 j = T1 j) → ItOk cf T2 base e0 A it) →
        x = .norm ∧ ∃ (T' : Nat → St) (its : List It), (∀ j, j ≤ chs A → T' j = T j) ∧ its.map It.d = d :: L ∧ (∀ B it C, its = B ++ it :: C → ItOk cf T' base e0 (A ++ B) it) ∧
          e' = (A ++ its).foldl putIt e0 ∧ s' = addM (T' (chs (A ++ its))) (mkrs (A ++ its) (chs (A ++ its))) := by
      intro it T1 ss1 r1 s1 hd hhi hT1 q1 q2 q3 q4 q5 q6
      have hle : chs A ≤ chs (A ++ [it]) := by rw [chs_snoc]; split <;> omega
      obtain ⟨hx, T', its, p1, p2, p3, p4, p5⟩ := ih (A ++ [it]) T1 ss1 r1 _ s1 q1 q2 (by
        intro y hy
        rcases List.mem_append.1 hy with hy | hy
        · exact Nat.le_trans (hA y hy) hle
        · simp only [List.mem_singleton] at hy; subst hy; rw [hhi]; exact hle) q3 (by rw [List.foldl_append, he]; rfl) q4 q5
      refine ⟨hx, T', it :: its, fun j hj => (p1 j (Nat.le_trans hj hle)).trans (hT1 j hj), by simp [hd, p2], ?_, by rw [p4]; simp, by rw [p5]; simp⟩
      intro B it' C hB
      cases B with
      | nil =>
        simp only [List.nil_append, List.cons.injEq] at hB
        obtain ⟨rfl, rfl⟩ := hB
        rw [List.append_nil]
        exact q6 T' p1
      | cons b B =>
        simp only [List.cons_append, List.cons.injEq] at hB
        obtain ⟨rfl, hB⟩ := hB
        have := p3 B it' C hB
        rwa [List.append_assoc] at this
    subst he hs hr
    cases d with
    | fl i lo o =>
      simp only [drwRun] at h
      cases hm : o.parts.2.2.makes with
      | true =>
        have hmk : (D.fl i lo o).isMaker = true := by simp [D.isMaker, D.isCh, D.o, hm]
        rw [hm] at h
        simp only [cond_true] at h
        cases hw : wanted (A.foldl putIt e0) o.parts.2.1 with
        | true =>
          rw [hw] at h
          simp only [cond_true] at h
          split at h
          · rename_i v b hv
            have hc : chs (A ++ [(⟨.fl i lo o, true, v, chs A, some (base + A.countP (fun x => x.d.isMaker), b)⟩ : It)]) = chs A := by rw [chs_snoc]; simp [It.ch, D.isCh]
            refine fin ⟨.fl i lo o, true, v, chs A, some (base + A.countP (fun x => x.d.isMaker), b)⟩ T ss _ _ rfl rfl (fun _ _ => rfl) (by rw [hc]; exact hlen) (by rw [hc]; exact hT) ?_ ?_ h ?_
            · rw [List.countP_append]; simp [hmk]; omega
            · rw [hc, mkrs_snoc, if_pos rfl]
              simp [addM]
            · intro T2 _
              refine ⟨rfl, hw.symm, fun h => (by cases h), fun h => (by cases h), fun _ h => (by cases h), fun _ _ _ => ⟨b, rfl, hv⟩, fun _ _ h => by rw [show (It.k ⟨.fl i lo o, true, v, chs A, some (base + A.countP (fun x => x.d.isMaker), b)⟩).makes = true from hm] at h; cases h⟩
          · cases h
        | false =>
          rw [hw] at h
          simp only [cond_false] at h
          have hc : chs (A ++ [(⟨.fl i lo o, false, .undef, chs A, none⟩ : It)]) = chs A := by rw [chs_snoc]; simp [It.ch, D.isCh]
          refine fin ⟨.fl i lo o, false, .undef, chs A, none⟩ T ss _ _ rfl rfl (fun _ _ => rfl) (by rw [hc]; exact hlen) (by rw [hc]; exact hT) ?_ ?_ h ?_
          · rw [List.countP_append]; simp [hmk]; omega
          · rw [hc, mkrs_snoc, if_pos rfl]; simp
          · intro T2 _
            exact ⟨rfl, hw.symm, fun _ => ⟨rfl, rfl⟩, fun _ h => (by cases h), fun h => (by cases h), fun h => (by cases h), fun h => (by cases h)⟩
      | false =>
        have hmk : (D.fl i lo o).isMaker = false := by simp [D.isMaker, D.isCh, D.o, hm]
        rw [hm] at h
        simp only [cond_false] at h
        cases hw : wanted (A.foldl putIt e0) o.parts.2.1 with
        | true =>
          rw [hw] at h
          simp only [cond_true] at h
          split at h
          · rename_i v hv
            have hc : chs (A ++ [(⟨.fl i lo o, true, v, chs A, none⟩ : It)]) = chs A := by rw [chs_snoc]; simp [It.ch, D.isCh]
            refine fin ⟨.fl i lo o, true, v, chs A, none⟩ T ss _ _ rfl rfl (fun _ _ => rfl) (by rw [hc]; exact hlen) (by rw [hc]; exact hT) ?_ ?_ h ?_
            · rw [List.countP_append]; simp [hmk]
            · rw [hc, mkrs_snoc, if_pos rfl]; simp
            · intro T2 hT2
              rw [hc] at hT2
              obtain ⟨f1, f2⟩ := flRun_ok hv T2 (chs A) hlen (fun j hj => by rw [hT2 j hj]; exact hT j hj)
              exact ⟨rfl, hw.symm, fun h => (by cases h), fun h => (by cases h), fun _ h => (by cases h), fun _ _ h => (by rw [show (It.k ⟨.fl i lo o, true, v, chs A, none⟩).makes = false from hm] at h; cases h), fun _ _ _ => ⟨rfl, f1, f2⟩⟩
          · cases h
        | false =>
          rw [hw] at h
          simp only [cond_false] at h
          have hc : chs (A ++ [(⟨.fl i lo o, false, .undef, chs A, none⟩ : It)]) = chs A := by rw [chs_snoc]; simp [It.ch, D.isCh]
          refine fin ⟨.fl i lo o, false, .undef, chs A, none⟩ T ss _ _ rfl rfl (fun _ _ => rfl) (by rw [hc]; exact hlen) (by rw [hc]; exact hT) ?_ ?_ h ?_
          · rw [List.countP_append]; simp [hmk]
          · rw [hc, mkrs_snoc, if_pos rfl]; simp
          · intro T2 _
            exact ⟨rfl, hw.symm, fun _ => ⟨rfl, rfl⟩, fun _ h => (by cases h), fun h => (by cases h), fun h => (by cases h), fun h => (by cases h)⟩
    | ch i o =>
      have hmk : (D.ch i o).isMaker = false := by simp [D.isMaker, D.isCh]
      simp only [drwRun] at h
      have next : ∀ (w : Bool) (v : AV) (s1 : St), drwRun cf L (s1 :: ss) (base + A.countP (fun x => x.d.isMaker)) (putd (A.foldl putIt e0) o.parts.1 v) s1 = .ok x e' s' →
          (∀ T2 : Nat → St, T2 (chs A) = T (chs A) → T2 (chs A + 1) = s1 → ItOk cf T2 base e0 A ⟨.ch i o, w, v, chs A, none⟩) →
          x = .norm ∧ ∃ (T' : Nat → St) (its : List It), (∀ j, j ≤ chs A → T' j = T j) ∧ its.map It.d = .ch i o :: L ∧ (∀ B it C, its = B ++ it :: C → ItOk cf T' base e0 (A ++ B) it) ∧
          e' = (A ++ its).foldl putIt e0 ∧ s' = addM (T' (chs (A ++ its))) (mkrs (A ++ its) (chs (A ++ its))) := by
        intro w v s1 h hok
        have hc : chs (A ++ [(⟨.ch i o, w, v, chs A, none⟩ : It)]) = chs A + 1 := by rw [chs_snoc]; simp [It.ch, D.isCh]
        refine fin ⟨.ch i o, w, v, chs A, none⟩ (fun j => if j = chs A + 1 then s1 else T j) (s1 :: ss) _ s1 rfl rfl (fun j hj => by show (if j = chs A + 1 then s1 else T j) = T j; rw [if_neg (by omega)]) (by rw [hc]; simp [hlen]) ?_ ?_ ?_ h ?_
        · intro j hj
          rw [hc] at hj ⊢
          by_cases hjc : j = chs A + 1
          · subst hjc; simp
          · rw [if_neg hjc, show chs A + 1 - j = (chs A - j) + 1 by omega, List.getElem?_cons_succ]
            exact hT j (by omega)
        · rw [List.countP_append]; simp [hmk]
        · rw [hc, mkrs_none (fun it hit => by
            rcases List.mem_append.1 hit with hit | hit
            · have := hA it hit; omega
            · simp only [List.mem_singleton] at hit; subst hit; show chs A ≠ chs A + 1; omega)]
          simp [addM]
        · intro T2 hT2
          rw [hc] at hT2
          refine hok T2 ?_ ?_
          · rw [hT2 _ (by omega)]; show (if chs A = chs A + 1 then s1 else T (chs A)) = _; rw [if_neg (by omega)]
          · rw [hT2 _ (by omega)]; show (if chs A + 1 = chs A + 1 then s1 else T (chs A + 1)) = _; rw [if_pos rfl]
      cases hw : wanted (A.foldl putIt e0) o.parts.2.1 with
      | true =>
        rw [hw] at h
        simp only [cond_true] at h
        split at h
        · rename_i v s1 hop
          refine next true v s1 h ?_
          intro T2 t1 t2
          refine ⟨rfl, hw.symm, fun h => (by cases h), fun h => (by cases h), fun _ _ => ⟨rfl, ?_⟩, fun _ h => (by cases h), fun _ h => (by cases h)⟩
          show opRun cf _ (addM (T2 (chs A)) (mkrs A (chs A))) o.parts.2.2 = .ok v (T2 (chs A + 1))
          rw [t1, t2]; exact hop
        · cases h
      | false =>
        rw [hw] at h
        simp only [cond_false] at h
        refine next false .undef _ h ?_
        intro T2 t1 t2
        refine ⟨rfl, hw.symm, fun _ => ⟨rfl, rfl⟩, fun _ _ => ?_, fun h => (by cases h), fun h => (by cases h), fun h => (by cases h)⟩
        show T2 (chs A + 1) = addM (T2 (chs A)) (mkrs A (chs A))
        rw [t1, t2]
end Go.Hx

/- Regions that draw their order: blocks that are there, and not yet known. -/
namespace Go.Hx
set_option autoImplicit false

theorem Rep.weak {ι ι' : Nm} {M M' : Nat → Prop} {w : World} {v : AV} {u : Value} (hf : ∀ n l, ι n = some l → ι' n = some l) (hM : ∀ x, M' x → M x) (h : Rep ι M w v u) : Rep ι' M' w v u := by
  induction h with
  | bool b => exact .bool b
  | int k n => exact .int k n
  | str s hs => exact .str s hs
  | nil => exact .nil
  | ptr n o l hn => exact .ptr n o l (hf _ _ hn)
  | kp cs a us h1 h2 h3 _ ih => exact .kp cs a us h1 (fun hne hm => h2 hne (hM _ hm)) h3 ih
  | snil => exact .snil
  | sl full xs a n cap sz us h0 h1 h2 h3 h4 _ h6 h7 ih => exact .sl full xs a n cap sz us h0 h1 h2 (fun hne hm => h3 hne (hM _ hm)) h4 ih h6 h7
  | vw n lo hi m c l a h1 h2 h3 h4 h5 h6 h7 => exact .vw n lo hi m c l a (hf _ _ h1) h2 h3 h4 h5 h6 h7
  | fn f a b a' b' h1 h2 _ _ ih1 ih2 => exact .fn f a b a' b' h1 h2 ih1 ih2
  | nilFn => exact .nilFn
  | iface t v u _ ih => exact .iface t v u ih
  | nilIface => exact .nilIface
  | nilMap => exact .nilMap
  | map n l hn => exact .map n l (hf _ _ hn)
  | yl n l hn => exact .yl n l (hf _ _ hn)
  | agg cs vs h1 _ ih => exact .agg cs vs h1 ih
  | tup cs vs h1 _ ih => exact .tup cs vs h1 ih
theorem Reps.weak {ι ι' : Nm} {M M' : Nat → Prop} {w : World} {v : List AV} {u : List Value} (hf : ∀ n l, ι n = some l → ι' n = some l) (hM : ∀ x, M' x → M x) (h : Reps ι M w v u) : Reps ι' M' w v u :=
  ⟨h.len, fun k v u hv hu => (h.at_ k v u hv hu).weak hf hM⟩
theorem BRel.weak {ι ι' : Nm} {M M' : Nat → Prop} {w : World} {b : Blk} {l : Loc} (hf : ∀ n l, ι n = some l → ι' n = some l) (hK : ι'.K = ι.K) (hM : ∀ x, M' x → M x) (h : BRel ι M w b l) : BRel ι' M' w b l := by
  cases h with
  | var ver t cs l arr e1 e2 => exact .var ver t cs l arr e1 (e2.weak hf hM)
  | row ver t cs l arr fz e1 e2 e3 e4 e5 => exact .row ver t cs l arr fz e1 e2 e3 (e4.weak hf hM) e5
  | bytes ver t s l arr fz e1 e2 e3 e4 e5 e6 e7 => exact .bytes ver t s l arr fz e1 e2 e3 e4 e5 e6 e7
  | map ver es l arr clock e1 e2 e3 => exact .map ver es l arr clock e1 (e2.weak hf hM) (e3.weak hf hM)
  | loop d e ps a b l r e1 e2 e3 e4 e5 e6 e7 e8 e9 e10 => exact .loop d e ps a b l r e1 e2 e3 e4 (by rw [hK]; exact e5) (by rw [hK]; exact e6) e7 e8 e9 (fun t => (e10 t).weak hf hM)
  | left e ps a b x l r e1 e2 e3 e4 => exact .left e ps a b x l r e1 e2 e3 e4

/-- Far from where it began. -/
structure Far (ι0 : Nm) (s0 : St) (w0 : World) (nb : Nat) (ι : Nm) (s : St) (w : World) : Prop where
  os : w.os = w0.os
  tape : w.tape = w0.tape
  output : w.output = w0.output
  size : w0.heap.size ≤ w.heap.size
  keep : ∀ b, b < w0.heap.size → ¬ Mut ι0 s0 b → w.heap[b]? = w0.heap[b]?
  keepx : ∀ b, ι0.X b → w.heap[b]? = w0.heap[b]?
  muts : ∀ b, Mut ι s b → Mut ι0 s0 b ∨ w0.heap.size ≤ b
  nm : ∀ n l, ι0 n = some l → ι n = some l
  next : s0.next ≤ s.next
  new : ∀ n, n < nb → ι n = ι0 n
  k : ι.K = ι0.K

structure Core (ι0 : Nm) (s0 : St) (w0 : World) (nb : Nat) (ι : Nm) (s : St) (w : World) (Pd : Nat → Blk → Prop) : Prop where
  rel : Rel ι s w
  far : Far ι0 s0 w0 nb ι s w
  res : s.res = none
  nb : nb ≤ s.next
  pend : ∀ r b, Pd r b → ∃ l, ι r = some l ∧ ι.X l.blk ∧ ¬ ι0.X l.blk ∧ BRel ι (Mut ι s) w b l
  inj : ∀ r b r' b' l l', Pd r b → Pd r' b' → ι r = some l → ι r' = some l' → l.blk = l'.blk → r = r'
  xs : ∀ x, ι.X x → ι0.X x ∨ ∃ r b l, Pd r b ∧ ι r = some l ∧ l.blk = x
  ups : ∀ x, ι0.X x → ι.X x

section
variable {ι0 ι ι' : Nm} {s0 s s' : St} {w0 w w' : World} {nb : Nat} {Pd Pd' : Nat → Blk → Prop}

theorem Core.congr (h : Core ι0 s0 w0 nb ι s w Pd) (hp : ∀ r b, Pd' r b ↔ Pd r b) : Core ι0 s0 w0 nb ι s w Pd' :=
  have e : Pd' = Pd := by funext r b; exact propext (hp r b)
  e ▸ h

theorem Core.move (h : Core ι0 s0 w0 nb ι s w Pd) (hr : Rel ι' s' w') (hN : Nxt ι s w ι' s' w') : Core ι0 s0 w0 nb ι' s' w' Pd where
  rel := hr
  res := by rcases hN.rs with h1 | h1 <;> simp [h1, h.res]
  nb := Nat.le_trans h.nb hN.next
  far := {
    os := hN.os.trans h.far.os
    tape := hN.tape.trans h.far.tape
    output := hN.output.trans h.far.output
    size := Nat.le_trans h.far.size hN.size
    keep := fun b hb hm => by
      rw [hN.keep b (Nat.lt_of_lt_of_le hb h.far.size) (fun hm' => (h.far.muts b hm').elim hm (fun h' => by omega))]
      exact h.far.keep b hb hm
    keepx := fun b hb => (hN.keepx b (h.ups b hb)).trans (h.far.keepx b hb)
    muts := fun b hb => (hN.muts b hb).elim (h.far.muts b) (fun h' => .inr (Nat.le_trans h.far.size h'))
    nm := fun n l hn => hN.nm n l (h.far.nm n l hn)
    next := Nat.le_trans h.far.next hN.next
    new := fun n hn => by rw [hN.new n (Nat.lt_of_lt_of_le hn h.nb) (by rw [h.res]; simp)]; exact h.far.new n hn
    k := hN.k.trans h.far.k }
  pend := fun r b hp => by
    obtain ⟨l, h1, h2, h3, h4⟩ := h.pend r b hp
    exact ⟨l, hN.nm r l h1, by rw [hN.x]; exact h2, h3, h4.mono hN (hN.keepx _ h2)⟩
  inj := fun r b r' b' l l' h1 h2 h3 h4 he => by
    obtain ⟨l1, q1, _⟩ := h.pend r b h1
    obtain ⟨l2, q2, _⟩ := h.pend r' b' h2
    have e1 := hN.nm r l1 q1
    have e2 := hN.nm r' l2 q2
    rw [h3] at e1; cases e1
    rw [h4] at e2; cases e2
    exact h.inj r b r' b' l l' h1 h2 q1 q2 he
  xs := fun x hx => by
    rw [hN.x] at hx
    rcases h.xs x hx with h1 | ⟨r, b, l, h1, h2, h3⟩
    · exact .inl h1
    · exact .inr ⟨r, b, l, h1, hN.nm r l h2, h3⟩
  ups := fun x hx => by rw [hN.x]; exact h.ups x hx

/-- One that was there is known from now on. -/
theorem Core.know1 (h : Core ι0 s0 w0 nb ι s w Pd) {r : Nat} {b : Blk} (hp : Pd r b) :
    ∃ ι1 : Nm, (∀ n, ι1 n = ι n) ∧ Core ι0 s0 w0 nb ι1 (s.put r (some b)) w (fun r' b' => Pd r' b' ∧ r' ≠ r) ∧ (∀ x, Mut ι1 (s.put r (some b)) x → Mut ι s x) := by
  obtain ⟨l, h1, h2, h3, h4⟩ := h.pend r b hp
  have hnone : s.get r = none := by
    cases hg : s.get r with
    | none => rfl
    | some b0 => exact absurd h2 (h.rel.xdis r b0 l hg h1)
  let ι1 : Nm := ⟨ι.f, fun x => ι.X x ∧ x ≠ l.blk, ι.K⟩
  have hM : ∀ x, Mut ι1 (s.put r (some b)) x → Mut ι s x := by
    intro x hx
    rcases hx with ⟨n, blk, l', g1, g2, rfl⟩ | hx
    · rcases get_put g1 with ⟨rfl, _⟩ | ⟨_, g1⟩
      · have g2 : ι n = some l' := g2
        rw [h1] at g2; cases g2; exact .inr h2
      · exact .inl ⟨n, blk, l', g1, g2, rfl⟩
    · exact .inr hx.1
  refine ⟨ι1, fun _ => rfl, ?_, hM⟩
  have hrel : Rel ι1 (s.put r (some b)) w := {
    inj := fun n m b1 b2 l1 l2 g1 g2 g3 g4 he => by
      have g3 : ι n = some l1 := g3
      have g4 : ι m = some l2 := g4
      rcases get_put g1 with ⟨hn, _⟩ | ⟨hn, k1⟩ <;> rcases get_put g2 with ⟨hm, _⟩ | ⟨hm, k2⟩
      · rw [hn, hm]
      · rw [hn, h1] at g3; cases g3
        exact absurd (he ▸ h2) (h.rel.xdis m b2 l2 k2 g4)
      · rw [hm, h1] at g4; cases g4
        exact absurd (he ▸ h2) (h.rel.xdis n b1 l1 k1 g3)
      · exact h.rel.inj n m b1 b2 l1 l2 k1 k2 g3 g4 he
    blk := fun n b1 g1 => by
      rcases get_put g1 with ⟨rfl, g⟩ | ⟨hn, g1⟩
      · cases g; exact ⟨l, h1, BRel.weak (ι := ι) (ι' := ι1) (fun _ _ h => h) rfl hM h4⟩
      · obtain ⟨l1, q1, q2⟩ := h.rel.blk n b1 g1
        exact ⟨l1, q1, BRel.weak (ι := ι) (ι' := ι1) (fun _ _ h => h) rfl hM q2⟩
    fresh := h.rel.fresh
    res := fun r' hr' => h.rel.res r' hr'
    deep := deep_put h.rel.deep r (some b)
    xlt := fun x hx => h.rel.xlt x hx.1
    xdis := fun n b1 l1 g1 g2 g3 => by
      have g2 : ι n = some l1 := g2
      rcases get_put g1 with ⟨rfl, _⟩ | ⟨hn, g1⟩
      · rw [h1] at g2; cases g2; exact g3.2 rfl
      · exact h.rel.xdis n b1 l1 g1 g2 g3.1 }
  exact {
    rel := hrel
    far := ⟨h.far.os, h.far.tape, h.far.output, h.far.size, h.far.keep, h.far.keepx, fun x hx => h.far.muts x (hM x hx), h.far.nm, h.far.next, h.far.new, h.far.k⟩
    res := h.res
    nb := h.nb
    pend := fun r' b' hp' => by
      obtain ⟨l', q1, q2, q3, q4⟩ := h.pend r' b' hp'.1
      refine ⟨l', q1, ⟨q2, fun he => hp'.2 (h.inj r' b' r b l' l hp'.1 hp q1 h1 he)⟩, q3, BRel.weak (ι := ι) (ι' := ι1) (fun _ _ h => h) rfl hM q4⟩
    inj := fun r1 b1 r2 b2 l1 l2 g1 g2 => h.inj r1 b1 r2 b2 l1 l2 g1.1 g2.1
    xs := fun x hx => by
      rcases h.xs x hx.1 with h5 | ⟨r', b', l', q1, q2, q3⟩
      · exact .inl h5
      · refine .inr ⟨r', b', l', ⟨q1, fun he => ?_⟩, q2, q3⟩
        subst he
        rw [h1] at q2; cases q2
        exact hx.2 q3.symm
    ups := fun x hx => ⟨h.ups x hx, fun he => h3 (he ▸ hx)⟩ }

theorem Core.know : ∀ (ms : List (Nat × Blk)) {ι : Nm} {s : St} {Pd : Nat → Blk → Prop}, Core ι0 s0 w0 nb ι s w Pd → (∀ p ∈ ms, Pd p.1 p.2) → (ms.map (·.1)).Nodup →
    ∃ ι1 : Nm, (∀ n, ι1 n = ι n) ∧ Core ι0 s0 w0 nb ι1 (addM s ms) w (fun r b => Pd r b ∧ r ∉ ms.map (·.1)) ∧ (∀ x, Mut ι1 (addM s ms) x → Mut ι s x) := by
  intro ms
  induction ms with
  | nil =>
    intro ι s Pd h _ _
    exact ⟨ι, fun _ => rfl, h.congr (fun r b => by simp), fun _ hx => hx⟩
  | cons p ms ih =>
    intro ι s Pd h hp hnd
    simp only [List.map_cons, List.nodup_cons] at hnd
    obtain ⟨ι1, e1, c1, m1⟩ := h.know1 (hp p List.mem_cons_self)
    obtain ⟨ι2, e2, c2, m2⟩ := ih c1 (fun q hq => ⟨hp q (List.mem_cons_of_mem _ hq), fun he => hnd.1 (he ▸ List.mem_map_of_mem hq)⟩) hnd.2
    refine ⟨ι2, fun n => (e2 n).trans (e1 n), c2.congr (fun r b => ?_), fun x hx => m1 x (m2 x hx)⟩
    simp only [List.map_cons, List.mem_cons, not_or]
    constructor
    · rintro ⟨a, b, c⟩; exact ⟨⟨a, b⟩, c⟩
    · rintro ⟨⟨a, b⟩, c⟩; exact ⟨a, b, c⟩

theorem get_add_self {s : St} {b : Blk} {r : Nat} (hd : Tr.Deep depth s.heap) (hr : r + 1 < 2 ^ depth) (hs : s.res = some r) : (s.add b).get r = some b := by
  unfold St.add
  rw [hs]
  exact Tr.deep_get hd r (some b) hr

/-- One that was made, and is not known. -/
theorem Core.hide (h : Core ι0 s0 w0 nb ι s w Pd) {r : Nat} {b : Blk} (hnr : ι r = none) (hlt : r < s.next) (hnb : nb ≤ r) (hdp : r + 1 < 2 ^ depth)
    (hr : Rel ι' ((⟨s.heap, s.next, some r⟩ : St).add b) w') (hN : Nxt ι ⟨s.heap, s.next, some r⟩ w ι' ((⟨s.heap, s.next, some r⟩ : St).add b) w') :
    ∃ ι1 : Nm, (∀ n, ι1 n = ι' n) ∧ Core ι0 s0 w0 nb ι1 s w' (fun r' b' => Pd r' b' ∨ (r' = r ∧ b' = b)) ∧ (∀ x, Mut ι1 s x → Mut ι' ((⟨s.heap, s.next, some r⟩ : St).add b) x) := by
  have hself := get_add_self (s := ⟨s.heap, s.next, some r⟩) (b := b) h.rel.deep hdp rfl
  obtain ⟨l, hl, hb⟩ := hr.blk r b hself
  have hxl : ¬ ι'.X l.blk := hr.xdis r b l hself hl
  have hnone : s.get r = none := by
    cases hg : s.get r with
    | none => rfl
    | some b0 => obtain ⟨l0, q, _⟩ := h.rel.blk r b0 hg; rw [hnr] at q; cases q
  have hget : ∀ n b1, s.get n = some b1 → n ≠ r ∧ ((⟨s.heap, s.next, some r⟩ : St).add b).get n = some b1 := by
    intro n b1 hn
    have hne : n ≠ r := by rintro rfl; rw [hnone] at hn; cases hn
    refine ⟨hne, ?_⟩
    show (s.heap.set r (some b)).get n = some b1
    rw [Tr.get_set_ne _ _ _ _ hne]; exact hn
  let ι1 : Nm := ⟨ι'.f, fun x => ι'.X x ∨ x = l.blk, ι'.K⟩
  have hM : ∀ x, Mut ι1 s x → Mut ι' ((⟨s.heap, s.next, some r⟩ : St).add b) x := by
    intro x hx
    rcases hx with ⟨n, blk, l', g1, g2, rfl⟩ | hx | rfl
    · exact .inl ⟨n, blk, l', (hget n blk g1).2, g2, rfl⟩
    · exact .inr hx
    · exact .inl ⟨r, b, l, hself, hl, rfl⟩
  refine ⟨ι1, fun _ => rfl, ?_, hM⟩
  have hrel : Rel ι1 s w' := {
    inj := fun n m b1 b2 l1 l2 g1 g2 g3 g4 he => hr.inj n m b1 b2 l1 l2 (hget n b1 g1).2 (hget m b2 g2).2 g3 g4 he
    blk := fun n b1 g1 => by
      obtain ⟨l1, q1, q2⟩ := hr.blk n b1 (hget n b1 g1).2
      exact ⟨l1, q1, BRel.weak (ι := ι') (ι' := ι1) (fun _ _ h => h) rfl hM q2⟩
    fresh := fun n hn => hr.fresh n hn
    res := fun r' hr' => by rw [h.res] at hr'; cases hr'
    deep := h.rel.deep
    xlt := fun x hx => by
      rcases hx with hx | rfl
      · exact hr.xlt x hx
      · exact hb.lt
    xdis := fun n b1 l1 g1 g2 g3 => by
      obtain ⟨hne, g1'⟩ := hget n b1 g1
      rcases g3 with g3 | g3
      · exact hr.xdis n b1 l1 g1' g2 g3
      · exact hne (hr.inj n r b1 b l1 l g1' hself g2 hl g3) }
  have hpend : ∀ r' b', Pd r' b' → ∃ l', ι r' = some l' ∧ ι' r' = some l' ∧ ι.X l'.blk ∧ ¬ ι0.X l'.blk ∧ BRel ι' (Mut ι' ((⟨s.heap, s.next, some r⟩ : St).add b)) w' b' l' := by
    intro r' b' hp'
    obtain ⟨l', q1, q2, q3, q4⟩ := h.pend r' b' hp'
    exact ⟨l', q1, hN.nm r' l' q1, q2, q3, BRel.mono hN q4 (hN.keepx _ q2)⟩
  exact {
    rel := hrel
    far := {
      os := hN.os.trans h.far.os
      tape := hN.tape.trans h.far.tape
      output := hN.output.trans h.far.output
      size := Nat.le_trans h.far.size hN.size
      keep := fun x hx hm => by
        rw [hN.keep x (Nat.lt_of_lt_of_le hx h.far.size) (fun hm' => (h.far.muts x hm').elim hm (fun h' => by omega))]
        exact h.far.keep x hx hm
      keepx := fun x hx => (hN.keepx x (h.ups x hx)).trans (h.far.keepx x hx)
      muts := fun x hx => (hN.muts x (hM x hx)).elim (h.far.muts x) (fun h' => .inr (Nat.le_trans h.far.size h'))
      nm := fun n l hn => hN.nm n l (h.far.nm n l hn)
      next := h.far.next
      new := fun n hn => by
        have : ι' n = ι n := hN.new n (Nat.lt_of_lt_of_le hn h.nb) (by show some r ≠ some n; intro he; cases he; omega)
        rw [show ι1 n = ι' n from rfl, this]; exact h.far.new n hn
      k := hN.k.trans h.far.k }
    res := h.res
    nb := h.nb
    pend := fun r' b' hp' => by
      rcases hp' with hp' | ⟨rfl, rfl⟩
      · obtain ⟨l', q1, q2, q3, q4, q5⟩ := hpend r' b' hp'
        exact ⟨l', q2, .inl (by rw [hN.x]; exact q3), q4, BRel.weak (ι := ι') (ι' := ι1) (fun _ _ h => h) rfl hM q5⟩
      · exact ⟨l, hl, .inr rfl, fun hx => hxl (by rw [hN.x]; exact h.ups _ hx), BRel.weak (ι := ι') (ι' := ι1) (fun _ _ h => h) rfl hM hb⟩
    inj := fun r1 b1 r2 b2 l1 l2 g1 g2 g3 g4 he => by
      have g3 : ι' r1 = some l1 := g3
      have g4 : ι' r2 = some l2 := g4
      rcases g1 with g1 | ⟨rfl, rfl⟩ <;> rcases g2 with g2 | ⟨rfl, rfl⟩
      · obtain ⟨m1, p1, p2, _⟩ := hpend r1 b1 g1
        obtain ⟨m2, q1, q2, _⟩ := hpend r2 b2 g2
        rw [g3] at p2; cases p2
        rw [g4] at q2; cases q2
        exact h.inj r1 b1 r2 b2 l1 l2 g1 g2 p1 q1 he
      · obtain ⟨m1, p1, p2, p3, _⟩ := hpend r1 b1 g1
        rw [g3] at p2; cases p2
        rw [hl] at g4; cases g4
        exact absurd (by rw [hN.x, ← he]; exact p3) hxl
      · obtain ⟨m2, q1, q2, q3, _⟩ := hpend r2 b2 g2
        rw [g4] at q2; cases q2
        rw [hl] at g3; cases g3
        exact absurd (by rw [hN.x, he]; exact q3) hxl
      · rfl
    xs := fun x hx => by
      rcases hx with hx | rfl
      · rw [hN.x] at hx
        rcases h.xs x hx with h5 | ⟨r', b', l', q1, q2, q3⟩
        · exact .inl h5
        · exact .inr ⟨r', b', l', .inl q1, hN.nm r' l' q2, q3⟩
      · exact .inr ⟨r, b, l, .inr ⟨rfl, rfl⟩, hl, rfl⟩
    ups := fun x hx => .inl (by rw [hN.x]; exact h.ups x hx) }
end
end Go.Hx

/- Regions that draw their order: what is asked of the machine's order; temporaries. -/
namespace Go.Hx
set_option autoImplicit false

/-- What is known of a region and the machine's way through it. -/
structure Reg (P : Program) (rows : Bool) (ops : Array Oper) (its : List It) : Prop where
  len : its.length = ops.size
  nd : (its.map fun it => it.d.i).Nodup
  lt : ∀ it ∈ its, it.d.i < ops.size
  all : ∀ i, i < ops.size → ∃ it ∈ its, it.d.i = i
  op : ∀ it ∈ its, ∀ o, ops[it.d.i]? = some o → it.d.o = oOf P rows ops o
  edge : ∀ i o, ops[i]? = some o → ∀ e ∈ o.after, Region.binds .any e = true → e.on < i
  pair : ∀ A y B, its = A ++ y :: B → ∀ x ∈ A, y.ch = true ∨ touch x.d y.d = true → ((ancs ops).getD y.d.i 0).testBit x.d.i = true
  lo : ∀ A y B, its = A ++ y :: B → y.ch = false → y.d.lo ≤ A.countP (fun x => x.ch && ((ancs ops).getD y.d.i 0).testBit x.d.i)

theorem nodupB_ok : ∀ {l : List Nat}, nodupB l = true → l.Nodup := by
  intro l
  induction l with
  | nil => intro _; exact List.nodup_nil
  | cons i l ih =>
    intro h
    simp only [nodupB, Bool.and_eq_true, Bool.not_eq_true', List.contains_eq_mem, decide_eq_false_iff_not] at h
    exact List.nodup_cons.2 ⟨h.1, ih h.2⟩

theorem drwChk_ok {bs : List Nat} : ∀ (L seen : List D), drwChk bs seen L = true → ∀ A y B, L = A ++ y :: B →
    (∀ x ∈ seen ++ A, drwPair bs y x = true) ∧ (y.isCh = false → y.lo ≤ (seen ++ A).countP fun x => x.isCh && (bs.getD y.i 0).testBit x.i) := by
  intro L
  induction L with
  | nil => intro seen _ A y B h; simp at h
  | cons d L ih =>
    intro seen h A y B hL
    simp only [drwChk, Bool.and_eq_true, Bool.or_eq_true] at h
    cases A with
    | nil =>
      simp only [List.nil_append, List.cons.injEq] at hL
      obtain ⟨rfl, rfl⟩ := hL
      rw [List.append_nil]
      refine ⟨fun x hx => List.all_eq_true.1 h.1.1 x hx, fun hc => ?_⟩
      rcases h.1.2 with h1 | h1
      · rw [hc] at h1; cases h1
      · exact Nat.le_of_ble_eq_true h1
    | cons a A =>
      simp only [List.cons_append, List.cons.injEq] at hL
      obtain ⟨rfl, hL⟩ := hL
      have := ih (seen ++ [d]) h.2 A y B hL
      simpa [List.append_assoc] using this

theorem map_split {α β : Type} (f : α → β) : ∀ {l : List α} {A : List α} {y : α} {B : List α}, l = A ++ y :: B → l.map f = A.map f ++ f y :: B.map f := by
  intro l A y B h; subst h; simp

theorem reg_of {P : Program} {rows : Bool} {ops : Array Oper} {its : List It} (h : drwOk P rows ops = true) (hm : its.map It.d = drwOf P rows ops) : Reg P rows ops its := by
  unfold drwOk at h
  simp only [Bool.and_eq_true] at h
  obtain ⟨⟨⟨⟨⟨h0, h1⟩, h2⟩, h3⟩, h4⟩, h5⟩ := h
  have e1 : (drwOf P rows ops).map D.i = its.map fun it => it.d.i := by rw [← hm, List.map_map]; rfl
  rw [e1] at h0 h1 h2 h3
  refine ⟨by simpa using Nat.eq_of_beq_eq_true h0, nodupB_ok h1, ?_, ?_, ?_, ?_, ?_, ?_⟩
  · intro it hit
    have := List.all_eq_true.1 h2 it.d.i (List.mem_map_of_mem (f := fun it : It => it.d.i) hit)
    simp only [Nat.blt] at this
    exact Nat.le_of_ble_eq_true this
  · intro i hi
    have := List.all_eq_true.1 h3 i (List.mem_range.2 hi)
    simp only [List.contains_eq_mem, decide_eq_true_eq] at this
    obtain ⟨it, hit, he⟩ := List.mem_map.1 this
    exact ⟨it, hit, he⟩
  · intro it hit o ho
    have : it.d ∈ drwOf P rows ops := by rw [← hm]; exact List.mem_map_of_mem hit
    unfold drwOf at this
    obtain ⟨i, _, hd⟩ := List.mem_map.1 this
    have hi : it.d.i = i := by
      rw [← hd]; unfold drwItem; split
      · split <;> rfl
      · rfl
    rw [hi] at ho
    rw [← hd]
    unfold drwItem
    rw [ho]
    simp only
    split <;> rfl
  · intro i o ho e he hb
    have hmem : (o, i) ∈ ops.toList.zipIdx := by
      rw [List.mem_iff_getElem?]
      exact ⟨i, by rw [List.getElem?_zipIdx]; simp [ho]⟩
    have h6 := List.all_eq_true.1 h4 (o, i) hmem
    have h7 := (Array.all_eq_true_iff_forall_mem.1 h6) e he
    simp only [hb, Bool.not_true, Bool.false_or, Nat.blt] at h7
    exact Nat.le_of_ble_eq_true h7
  · intro A y B hy x hx hc
    have hs := map_split It.d hy
    rw [hm] at hs
    have := (drwChk_ok _ [] h5 _ _ _ hs).1 x.d (by simpa using List.mem_map_of_mem hx)
    unfold drwPair at this
    have hc' : (y.d.isCh || touch x.d y.d) = true := by rw [Bool.or_eq_true]; exact hc
    rw [hc'] at this
    simpa using this
  · intro A y B hy hc
    have hs := map_split It.d hy
    rw [hm] at hs
    have := (drwChk_ok _ [] h5 _ _ _ hs).2 hc
    simp only [List.nil_append, List.countP_map] at this
    exact this

/-! ### Temporaries -/
def cur (its : List It) (e0 : Env) (f : Nat → Bool) (t : Nat) : AV := its.foldl (fun x it => bif f it.d.i && (it.dst == some t) then it.v else x) (e0.rd t)
theorem rd_putd {d : Nat} {e : Env} (hd : Tr.Deep d e) {o : Option Nat} (ho : ∀ t, o = some t → t + 1 < 2 ^ d) (v : AV) (t : Nat) : (putd e o v).rd t = bif o == some t then v else e.rd t := by
  cases o with
  | none => rfl
  | some j =>
    simp only [putd, Env.wr, Env.rd]
    by_cases h : j = t
    · subst h
      rw [Tr.deep_get hd j _ (ho j rfl)]
      simp [orUndef]
    · rw [Tr.get_set_ne _ _ _ _ (Ne.symm h)]
      have : (some j == some t) = false := by simp [h]
      rw [this]; rfl
theorem deep_putd {d : Nat} {e : Env} (hd : Tr.Deep d e) (o : Option Nat) (v : AV) : Tr.Deep d (putd e o v) := by
  cases o with
  | none => exact hd
  | some j => exact Tr.deep_set hd _ _
theorem foldPut_deep {d : Nat} : ∀ (A : List It) {e : Env}, Tr.Deep d e → Tr.Deep d (A.foldl putIt e) := by
  intro A
  induction A with
  | nil => intro e h; exact h
  | cons x A ih => intro e h; exact ih (deep_putd h _ _)
theorem foldPut_rd {d : Nat} (t : Nat) : ∀ (A : List It) (e : Env), Tr.Deep d e → (∀ x ∈ A, ∀ j, x.dst = some j → j + 1 < 2 ^ d) →
    (A.foldl putIt e).rd t = A.foldl (fun x it => bif it.dst == some t then it.v else x) (e.rd t) := by
  intro A
  induction A with
  | nil => intro e _ _; rfl
  | cons x A ih =>
    intro e h hA
    rw [List.foldl_cons, ih _ (show Tr.Deep d (putIt e x) from deep_putd h _ _) (fun y hy => hA y (List.mem_cons_of_mem _ hy)), List.foldl_cons]
    congr 1
    exact rd_putd h (hA x List.mem_cons_self) x.v t
theorem fold_all (f : Nat → Bool) (t : Nat) : ∀ (A : List It) (v : AV), (∀ x ∈ A, x.dst = some t → f x.d.i = true) →
    A.foldl (fun x it => bif f it.d.i && (it.dst == some t) then it.v else x) v = A.foldl (fun x it => bif it.dst == some t then it.v else x) v := by
  intro A
  induction A with
  | nil => intro v _; rfl
  | cons x A ih =>
    intro v h
    rw [List.foldl_cons, List.foldl_cons, ih _ (fun y hy => h y (List.mem_cons_of_mem _ hy))]
    congr 1
    cases hd : (x.dst == some t) with
    | true => rw [h x List.mem_cons_self (by simpa using hd)]; rfl
    | false => rw [Bool.and_false]
theorem fold_none (f : Nat → Bool) (t : Nat) : ∀ (A : List It) (v : AV), (∀ x ∈ A, x.dst = some t → f x.d.i = false) →
    A.foldl (fun x it => bif f it.d.i && (it.dst == some t) then it.v else x) v = v := by
  intro A
  induction A with
  | nil => intro v _; rfl
  | cons x A ih =>
    intro v h
    rw [List.foldl_cons]
    have : (bif f x.d.i && (x.dst == some t) then x.v else v) = v := by
      cases hd : (x.dst == some t) with
      | true => rw [h x List.mem_cons_self (by simpa using hd)]; rfl
      | false => rw [Bool.and_false]; rfl
    rw [this]
    exact ih v (fun y hy => h y (List.mem_cons_of_mem _ hy))
theorem fold_same (f f' : Nat → Bool) (t : Nat) : ∀ (A : List It) (v : AV), (∀ x ∈ A, f x.d.i = f' x.d.i) →
    A.foldl (fun x it => bif f it.d.i && (it.dst == some t) then it.v else x) v = A.foldl (fun x it => bif f' it.d.i && (it.dst == some t) then it.v else x) v := by
  intro A
  induction A with
  | nil => intro v _; rfl
  | cons x A ih =>
    intro v h
    rw [List.foldl_cons, List.foldl_cons, h x List.mem_cons_self]
    exact ih _ (fun y hy => h y (List.mem_cons_of_mem _ hy))

theorem cur_split {its A B : List It} {it : It} (e0 : Env) (f : Nat → Bool) (t : Nat) (h : its = A ++ it :: B) : cur its e0 f t =
    B.foldl (fun x it => bif f it.d.i && (it.dst == some t) then it.v else x) (bif f it.d.i && (it.dst == some t) then it.v else A.foldl (fun x it => bif f it.d.i && (it.dst == some t) then it.v else x) (e0.rd t)) := by
  unfold cur; subst h; rw [List.foldl_append, List.foldl_cons]

theorem cur_put {its A B : List It} {it : It} (e0 : Env) {f f' : Nat → Bool} (h : its = A ++ it :: B) (hn : f it.d.i = false) (hn' : f' it.d.i = true) (hA : ∀ x ∈ A, f x.d.i = f' x.d.i) (hB : ∀ x ∈ B, f x.d.i = f' x.d.i)
    (hd : ∀ t, it.dst = some t → ∀ x ∈ B, x.dst = some t → f x.d.i = false) (t : Nat) : cur its e0 f' t = bif it.dst == some t then it.v else cur its e0 f t := by
  rw [cur_split e0 f' t h, cur_split e0 f t h, hn, hn', Bool.true_and, Bool.false_and, cond_false]
  rw [← fold_same f f' t A _ hA, ← fold_same f f' t B _ hB]
  cases hq : (it.dst == some t) with
  | true => rw [cond_true]; exact fold_none f t B _ (hd t (by simpa using hq))
  | false => rfl

theorem env_of (d : Nat) (g : Nat → AV) : ∀ n, n < 2 ^ d → ∃ e : Env, Tr.Deep d e ∧ ∀ t, e.rd t = if t < n then g t else .undef := by
  intro n
  induction n with
  | zero =>
    intro _
    refine ⟨Tr.full d, Tr.deep_full d, fun t => ?_⟩
    simp only [Env.rd, Tr.get_full, orUndef, Nat.not_lt_zero, if_false]
  | succ n ih =>
    intro h
    obtain ⟨e, h1, h2⟩ := ih (by omega)
    refine ⟨e.wr n (g n), Tr.deep_set h1 _ _, fun t => ?_⟩
    simp only [Env.wr, Env.rd]
    by_cases ht : t = n
    · subst ht
      rw [Tr.deep_get h1 _ _ h, if_pos (by omega)]; rfl
    · rw [Tr.get_set_ne _ _ _ _ ht]
      have := h2 t
      simp only [Env.rd] at this
      rw [this]
      by_cases hl : t < n
      · rw [if_pos hl, if_pos (by omega)]
      · rw [if_neg hl, if_neg (by omega)]
theorem rep_undef_inv {ι : Nm} {M : Nat → Prop} {w : World} {v : AV} (h : Rep ι M w v undef) : v = .undef := by
  unfold undef at h
  cases h with
  | tup cs vs h1 _ =>
    have : cs = [] := List.eq_nil_of_length_eq_zero (by simpa using h1.symm)
    rw [this]; rfl

theorem touch_l {x y : D} {t : Nat} (h1 : t ∈ x.o.dst) (h2 : t ∈ y.o.names) : touch x y = true := by
  unfold touch
  rw [Bool.or_eq_true]
  refine .inl (List.any_eq_true.2 ⟨t, h1, by simpa using h2⟩)
theorem touch_r {x y : D} {t : Nat} (h1 : t ∈ y.o.dst) (h2 : t ∈ x.o.names) : touch x y = true := by
  unfold touch
  rw [Bool.or_eq_true]
  refine .inr (List.any_eq_true.2 ⟨t, h1, by simpa using h2⟩)
theorem dst_mem {it : It} {t : Nat} (h : it.dst = some t) : t ∈ it.d.o.dst := by
  show t ∈ it.d.o.parts.1.toList
  rw [show it.d.o.parts.1 = some t from h]; simp
theorem dst_names {it : It} {t : Nat} (h : it.dst = some t) : t ∈ it.d.o.names := by
  unfold O.names
  exact List.mem_append_left _ (List.mem_append_left _ (dst_mem h))

/-! ### Who is listed -/
section
variable {P : Program} {rows : Bool} {ops : Array Oper} {its A B : List It} {it : It} {lst : Array Bool}
theorem getD_ft {lst : Array Bool} {i : Nat} (hi : i < lst.size) (h : lst.getD i true = false) : lst.getD i false = false := by
  simp [hi] at h ⊢; exact h
theorem set_getD (lst : Array Bool) {i : Nat} (hi : i < lst.size) (j : Nat) : (lst.setIfInBounds i true).getD j false = (lst.getD j false || (j == i)) := by
  by_cases h : j = i
  · subst h; simp [hi]
  · have : (j == i) = false := by simp [h]
    rw [this, Bool.or_false]
    simp [Array.getElem?_setIfInBounds_ne (Ne.symm h)]
theorem nd_split (hr : Reg P rows ops its) (h : its = A ++ it :: B) : (∀ x ∈ A, x.d.i ≠ it.d.i) ∧ (∀ x ∈ B, x.d.i ≠ it.d.i) := by
  have := hr.nd
  rw [h, List.map_append, List.map_cons, List.nodup_append] at this
  obtain ⟨_, h2, h3⟩ := this
  refine ⟨fun x hx he => ?_, fun x hx he => ?_⟩
  · exact h3 _ (List.mem_map_of_mem hx) _ List.mem_cons_self he
  · rw [List.nodup_cons] at h2
    exact h2.1 (he ▸ List.mem_map_of_mem (f := fun it : It => it.d.i) hx)

/-- One that may come now. -/
structure Now (P : Program) (rows : Bool) (ops : Array Oper) (its A B : List It) (it : It) (lst : Array Bool) (o : Oper) : Prop where
  split : its = A ++ it :: B
  op : ops[it.d.i]? = some o
  size : lst.size = ops.size
  closed : Closed ops lst
  un : lst.getD it.d.i false = false
  all : ∀ e ∈ o.after, Region.binds .any e = true → lst.getD e.on false = true

theorem Now.anc {o : Oper} (h : Now P rows ops its A B it lst o) {j : Nat} (hj : ((ancs ops).getD it.d.i 0).testBit j = true) : lst.getD j false = true := anc_listed h.closed _ o j h.op h.all hj
theorem Now.desc {o : Oper} (hr : Reg P rows ops its) (h : Now P rows ops its A B it lst o) {y : It} (hy : y ∈ its) (hj : ((ancs ops).getD y.d.i 0).testBit it.d.i = true) : lst.getD y.d.i false = false := by
  cases hl : lst.getD y.d.i false with
  | false => rfl
  | true =>
    have ho : ops[y.d.i]? = some (ops[y.d.i]'(hr.lt y hy)) := Array.getElem?_eq_getElem _
    have := anc_listed h.closed _ _ it.d.i ho (h.closed _ _ ho hl) hj
    rw [h.un] at this; cases this
/-- those ahead of it that it touches have been; those behind it have not -/
theorem Now.ahead {o : Oper} (hr : Reg P rows ops its) (h : Now P rows ops its A B it lst o) {x : It} (hx : x ∈ A) (ht : it.ch = true ∨ touch x.d it.d = true) : lst.getD x.d.i false = true :=
  h.anc (hr.pair A it B h.split x hx ht)
theorem Now.behind {o : Oper} (hr : Reg P rows ops its) (h : Now P rows ops its A B it lst o) {y : It} (hy : y ∈ B) (ht : y.ch = true ∨ touch it.d y.d = true) : lst.getD y.d.i false = false := by
  obtain ⟨B1, B2, rfl⟩ := List.append_of_mem hy
  refine h.desc hr (by rw [h.split]; simp) (hr.pair (A ++ it :: B1) y B2 (by rw [h.split]; simp) it (by simp) ht)

def cn (its : List It) (lst : Array Bool) : Nat := its.countP fun x => x.ch && lst.getD x.d.i false
theorem Now.cn_ch {o : Oper} (hr : Reg P rows ops its) (h : Now P rows ops its A B it lst o) (hc : it.ch = true) : cn its lst = chs A := by
  unfold cn chs
  rw [h.split, List.countP_append, List.countP_cons]
  have e1 : A.countP (fun x => x.ch && lst.getD x.d.i false) = A.countP (fun x => x.ch) := by
    apply List.countP_congr
    intro x hx
    simp [h.ahead hr hx (.inl hc)]
  have e2 : B.countP (fun x => x.ch && lst.getD x.d.i false) = 0 := by
    rw [List.countP_eq_zero]
    intro x hx hq
    simp only [Bool.and_eq_true] at hq
    rw [h.behind hr hx (.inl hq.1)] at hq
    cases hq.2
  rw [e1, e2, h.un]
  simp
theorem Now.cn_fl {o : Oper} (hr : Reg P rows ops its) (h : Now P rows ops its A B it lst o) (hc : it.ch = false) : it.d.lo ≤ cn its lst ∧ cn its lst ≤ chs A := by
  have e2 : B.countP (fun x => x.ch && lst.getD x.d.i false) = 0 := by
    rw [List.countP_eq_zero]
    intro x hx hq
    simp only [Bool.and_eq_true] at hq
    rw [h.behind hr hx (.inl hq.1)] at hq
    cases hq.2
  have e0 : cn its lst = A.countP (fun x => x.ch && lst.getD x.d.i false) := by
    unfold cn
    rw [h.split, List.countP_append, List.countP_cons, e2, h.un]
    simp
  rw [e0]
  refine ⟨Nat.le_trans (hr.lo A it B h.split hc) (List.countP_mono_left ?_), List.countP_mono_left ?_⟩
  · intro x hx hq
    simp only [Bool.and_eq_true] at hq ⊢
    exact ⟨hq.1, h.anc hq.2⟩
  · intro x hx hq
    simp only [Bool.and_eq_true] at hq
    exact hq.1
theorem Now.cn_set {o : Oper} (hr : Reg P rows ops its) (h : Now P rows ops its A B it lst o) : cn its (lst.setIfInBounds it.d.i true) = cn its lst + if it.ch = true then 1 else 0 := by
  have hi : it.d.i < lst.size := by rw [h.size]; exact hr.lt it (by rw [h.split]; simp)
  obtain ⟨hA, hB⟩ := nd_split hr h.split
  unfold cn
  rw [h.split, List.countP_append, List.countP_append, List.countP_cons, List.countP_cons]
  have e1 : A.countP (fun x => x.ch && (lst.setIfInBounds it.d.i true).getD x.d.i false) = A.countP (fun x => x.ch && lst.getD x.d.i false) := by
    apply List.countP_congr
    intro x hx
    rw [set_getD lst hi]; simp [hA x hx]
  have e2 : B.countP (fun x => x.ch && (lst.setIfInBounds it.d.i true).getD x.d.i false) = B.countP (fun x => x.ch && lst.getD x.d.i false) := by
    apply List.countP_congr
    intro x hx
    rw [set_getD lst hi]; simp [hB x hx]
  rw [e1, e2, h.un, set_getD lst hi]
  simp
  omega
theorem Now.closed' {o : Oper} (hr : Reg P rows ops its) (h : Now P rows ops its A B it lst o) : Closed ops (lst.setIfInBounds it.d.i true) := by
  have hi : it.d.i < lst.size := by rw [h.size]; exact hr.lt it (by rw [h.split]; simp)
  intro i o' ho hl e he hb
  rw [set_getD lst hi] at hl ⊢
  rw [Bool.or_eq_true] at hl ⊢
  rcases hl with hl | hl
  · exact .inl (h.closed i o' ho hl e he hb)
  · simp only [beq_iff_eq] at hl
    subst hl
    rw [h.op] at ho; cases ho
    exact .inl (h.all e he hb)
theorem Now.cur_at {o : Oper} (hr : Reg P rows ops its) (h : Now P rows ops its A B it lst o) {d : Nat} {e0 : Env} (hd : Tr.Deep d e0) (hA : ∀ x ∈ A, ∀ j, x.dst = some j → j + 1 < 2 ^ d) {t : Nat} (ht : t ∈ it.d.o.names) :
    cur its e0 (fun i => lst.getD i false) t = (A.foldl putIt e0).rd t := by
  rw [cur_split e0 _ t h.split, h.un, Bool.false_and, cond_false, foldPut_rd t A e0 hd hA]
  rw [fold_none (fun i => lst.getD i false) t B _ (fun x hx hq => h.behind hr hx (.inr (touch_r (dst_mem hq) ht)))]
  exact fold_all (fun i => lst.getD i false) t A _ (fun x hx hq => h.ahead hr hx (.inr (touch_l (dst_mem hq) ht)))
theorem Now.cur_set {o : Oper} (hr : Reg P rows ops its) (h : Now P rows ops its A B it lst o) (e0 : Env) (t : Nat) :
    cur its e0 (fun i => (lst.setIfInBounds it.d.i true).getD i false) t = bif it.dst == some t then it.v else cur its e0 (fun i => lst.getD i false) t := by
  have hi : it.d.i < lst.size := by rw [h.size]; exact hr.lt it (by rw [h.split]; simp)
  obtain ⟨hA, hB⟩ := nd_split hr h.split
  refine cur_put e0 h.split h.un (by rw [set_getD lst hi]; simp) (fun x hx => by rw [set_getD lst hi]; simp [hA x hx]) (fun x hx => by rw [set_getD lst hi]; simp [hB x hx]) ?_ t
  intro t' ht' x hx hq
  exact h.behind hr hx (.inr (touch_l (dst_mem ht') (dst_names hq)))
end
end Go.Hx
