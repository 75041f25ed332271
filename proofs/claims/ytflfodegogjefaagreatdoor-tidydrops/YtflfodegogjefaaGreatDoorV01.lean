import Derived.Test.YtflfodegogjefaaGreatDoorV00
import Derived.Laws.MakeOwn
import Derived.Laws.AppendOwn
import Derived.RangeFuncIn
import Derived.OrdersIn
import Derived.Laws.BytesArg
import Derived.Lib.UnsafeStr
import Derived.RangeFuncLeaves
import Derived.RecoverIn
set_option linter.unusedSimpArgs false
set_option linter.unusedVariables false
namespace Go.Ax
section
variable {P : Program} {F : Nat → Option Obj} {m : Loc} {gl : Nat → AV} {eqT : Knob}
theorem makeSlice_rel {t : TypeId} {l c v : AV} {cl cc : Value} {h h' : Hp} {w : World} (ha : makeSlice (Ctx.of P gl eqT) t l c h = some (v, h')) (hl : VRel P F m l cl) (hc : VRel P F m c cc) (hr : HRel P F m h w) (hn : ∀ r, h.nx ≤ r → r < h'.nx → m r = none) :
  ∃ cv w' m', (Instr.makeSlice t cl cc).run P w = .ok cv w' ∧ Step P F m h h' w w' m' ∧ VRel P F m' v cv := by
 unfold makeSlice at ha; cases ha
theorem lenA_rel {x : AV} {cx : Value} {k : Nat} {w : World} (h : lenA x = some k) (hx : VRel P F m x cx) : (Builtin.lenOf cx).run P w = .ok k w := by
 unfold lenA at h
 split at h
 ·cases h; obtain rfl := hx.nilsl_inv; simp [Builtin.lenOf]
 ·cases h; obtain ⟨b, z, ccap, _, rfl, _⟩ := hx.sl_inv; simp [Builtin.lenOf]
 ·cases h; obtain ⟨a, cap, rfl, _⟩ := hx.isl_inv; simp [Builtin.lenOf]
 ·cases h; obtain ⟨s, rfl, rfl⟩ := hx.str_inv; simp [Builtin.lenOf]
 ·cases h
theorem lenOfA_rel {t : TypeId} {ts : Array TypeId} {ty : TypeId} {args : Array Value} {x v : AV} {cx : Value} {h : Hp} {w : World} (ht : ts[0]? = some t) (ha : args[0]? = some cx) (hl : q3k (Ctx.of P gl eqT) t x h = some v) (hx : VRel P F m x cx) (hr : HRel P F m h w) :
  ∃ cv, (Builtin.len_ ts ty args).run P w = .ok cv w ∧ VRel P F m v cv := by
 unfold q3k at hl
 split at hl
 ·cases hl
 rename_i ti hti
 have hu := q1f hti w
 split at hl
 ·rename_i s hd; cases hl; rw [hd] at hu
  obtain ⟨s, rfl, rfl⟩ := hx.str_inv
  refine ⟨.int .i64 (.ofNat s.size), by simp [Builtin.len_, ht, ha, hu, Result.andThen, goInt], ?_⟩
  have : ((s.data.toList.map UInt8.toNat).length) = s.size := by simp
  rw [this]; exact .int _ _
 ·rename_i n e hd; cases hl; rw [hd] at hu
  exact ⟨.int .i64 (.ofNat n), by simp [Builtin.len_, ht, ha, hu, Result.andThen, goInt], .int _ _⟩
 ·cases hl
 ·rename_i e x hd hns; rw [hd] at hu
  split at hl
  case h_2 => cases hl
  rename_i n hn
  cases hl
  refine ⟨.int .i64 (.ofNat n), ?_, .int _ _⟩
  unfold lenA at hn
  split at hn
  ·cases hn; obtain rfl := hx.nilsl_inv; simp [Builtin.len_, ht, ha, hu, Result.andThen, goInt]
  ·cases hn; obtain ⟨b, z, ccap, _, rfl, _⟩ := hx.sl_inv; simp [Builtin.len_, ht, ha, hu, Result.andThen, goInt]
  ·cases hn; obtain ⟨a, cap, rfl, _⟩ := hx.isl_inv; simp [Builtin.len_, ht, ha, hu, Result.andThen, goInt]
  ·exact absurd rfl (hns _)
  ·cases hn
 ·rename_i hd; cases hl; rw [hd] at hu
  obtain rfl := hx.nilmap_inv
  exact ⟨.int .i64 0, by simp [Builtin.len_, ht, ha, hu, Result.andThen, goInt], .int _ _⟩
 ·rename_i r hd; rw [hd] at hu
  split at hl
  case h_2 => cases hl
  rename_i es clock hg
  cases hl
  obtain ⟨b, z, hm, rfl⟩ := hx.map_inv
  obtain ⟨ces, h1, h2, _⟩ := hr.obj r _ b z hg hm
  exact ⟨.int .i64 (.ofNat ces.size), by simp [Builtin.len_, ht, ha, hu, Result.andThen, goInt, getObj, Sem.run, h1], by rw [h2]; exact .int _ _⟩
 ·cases hl
theorem q7g {h : Hp} {es k : Nat} {x : AV} {cx : Value} {new : List AV} {w w0 : World} (hs : q1e h es k x = some new) (hx : VRel P F m x cx) (hr : HRel P F m h w) (hw : w0.heap = w.heap) :
    ∃ arr, (Builtin.firstCells es k cx).run P w0 = .ok arr w0 ∧ LRel P F m new arr.toList := by
  have hcell : ∀ b j arr (e : TypeId) (fz : Nat × Nat), w.heap[b]? = some (.cells arr e fz) → w0.cell? ⟨b, j, none⟩ = arr[j]? := fun b j arr e fz hb => q9I (by rw [hw]; exact hb)
  unfold q1e at hs
  split at hs
  · obtain ⟨hk, rfl⟩ := q0l hs
    obtain rfl := hx.nilsl_inv
    exact ⟨#[], by simp [Builtin.firstCells], .nil⟩
  · rename_i r o len cap fs fx
    obtain ⟨b, z, ccap, hm, rfl, h1, h2, h3, h4⟩ := hx.sl_inv
    cases hc : (Nat.ble k len && Nat.beq fs es) with
    | false => rw [hc] at hs; cases hs
    | true =>
      rw [hc] at hs
      simp only [cond_true] at hs
      split at hs
      case h_2 => cases hs
      rename_i e cs hg
      obtain ⟨hle, rfl⟩ := sub_some hs
      obtain ⟨arr, g1, g2, g3, g4⟩ := hr.obj r _ b z hg hm
      have hle : o + k * es ≤ cs.length := hle
      let vs := (arr.toList.drop o).take (k * es)
      have hvl : vs.length = k * es := by simp [vs]; omega
      have hrun := run_loadCells_list (P := P) w0 ⟨b, o, none⟩ vs (fun j v hj => by
        rw [q2H, hcell b _ arr e _ g1]
        rw [List.getElem?_take] at hj
        split at hj
        · rw [List.getElem?_drop] at hj; simpa using hj
        · cases hj)
      rw [hvl] at hrun
      refine ⟨vs.toArray, by simpa [Builtin.firstCells] using hrun, ?_⟩
      have : LRel P F m (cs.take (o + k * es)) (arr.toList.take (o + k * es)) := by
        refine ⟨by simp; omega, fun i x y hx hy => ?_⟩
        rw [List.getElem?_take] at hx hy
        split at hx
        · rename_i hi; rw [if_pos hi] at hy; exact g4 i x y hx (by simpa using hy)
        · cases hx
      have h2 := this.drop o
      rw [List.drop_take, List.drop_take, Nat.add_sub_cancel_left] at h2
      exact h2
  · rename_i xs
    obtain ⟨a, cap, rfl, hcap, hne⟩ := hx.isl_inv
    obtain ⟨hc, rfl⟩ := q0l hs
    obtain ⟨c1, c2⟩ := q0p hc
    have c1 := Nat.le_of_ble_eq_true c1
    have hall : ∀ c ∈ xs, c.length = es := fun c hc => Nat.eq_of_beq_eq_true (List.all_eq_true.1 c2 c hc)
    by_cases h0 : k * es = 0
    · have hnil : (xs.take k).flatten = [] := by
        apply List.eq_nil_of_length_eq_zero
        rw [List.length_flatten]
        have : (xs.take k).map List.length = List.replicate k es := by
          apply List.ext_getElem
          · simp; omega
          · intro i h1 h2
            simp only [List.getElem_map, List.getElem_take, List.getElem_replicate]
            exact hall _ (List.getElem_mem _)
        rw [this]; simpa using h0
      rw [hnil]
      cases a with
      | none => exact ⟨#[], by simp [Builtin.firstCells], .nil⟩
      | some a => exact ⟨#[], by simp only [Builtin.firstCells, h0]; rfl, .nil⟩
    · have hxs : xs ≠ [] := fun e => by subst e; simp at c1; subst c1; simp at h0
      obtain ⟨b, off, arr, e', fz, es', g, rfl, hF, hes, hfc, hcc⟩ := hne hxs
      have hes' : es' = es := by
        obtain ⟨c, l, rfl⟩ := List.exists_cons_of_ne_nil hxs
        rw [← hes c List.mem_cons_self, hall c List.mem_cons_self]
      subst hes'
      have hb := hr.frz b _ hF
      -- by the number of what is taken
      have key : ∀ n, n ≤ xs.length → ∃ vs : List Value, vs.length = n * es' ∧ (∀ j v, vs[j]? = some v → w0.cell? ⟨b, off + j, none⟩ = some v) ∧ LRel P F m (xs.take n).flatten vs := by
        intro n
        induction n with
        | zero => intro _; exact ⟨[], by simp, fun j v h => by simp at h, by simp; exact .nil⟩
        | succ n ih =>
          intro hn
          obtain ⟨vs, v1, v2, v3⟩ := ih (by omega)
          have hlt : n < xs.length := by omega
          let row := (List.range es').map fun j => g n j
          refine ⟨vs ++ row, by simp [row, v1, Nat.succ_mul], ?_, ?_⟩
          · intro j v hj
            by_cases hjl : j < vs.length
            · rw [List.getElem?_append_left hjl] at hj; exact v2 j v hj
            · rw [List.getElem?_append_right (by omega)] at hj
              have hj' : j - vs.length < es' := by have := (List.getElem?_eq_some_iff.1 hj).1; simpa [row] using this
              have hv : v = g n (j - vs.length) := by simp [row, hj'] at hj; exact hj.symm
              rw [hcell b _ arr e' fz hb, hv, ← hfc n (j - vs.length) hlt hj']
              congr 1; omega
          · have e1 : (xs.take (n + 1)).flatten = (xs.take n).flatten ++ xs[n] := by
              rw [List.take_succ_eq_append_getElem hlt, List.flatten_append]; simp
            rw [e1]
            refine v3.append ⟨by simp [row]; exact hes _ (List.getElem_mem hlt), fun i x y hx hy => ?_⟩
            have hi : i < es' := by have := (List.getElem?_eq_some_iff.1 hy).1; simpa [row] using this
            have : y = g n i := by simp [row, hi] at hy; exact hy.symm
            rw [this]
            exact hcc n i xs[n] x (List.getElem?_eq_getElem hlt) hx
      obtain ⟨vs, v1, v2, v3⟩ := key k c1
      have hrun := run_loadCells_list (P := P) w0 ⟨b, off, none⟩ vs (fun j v hj => by rw [q2H]; exact v2 j v hj)
      rw [v1] at hrun
      exact ⟨vs.toArray, by simpa [Builtin.firstCells] using hrun, v3⟩
  · rename_i s
    obtain ⟨hc, rfl⟩ := q0l hs
    obtain ⟨bs, rfl, rfl⟩ := hx.str_inv
    refine ⟨(bs.extract 0 k).data.map fun b => .int .u8 b.toNat, by simp [Builtin.firstCells], ?_⟩
    have e1 : ((bs.extract 0 k).data.map fun b => Value.int .u8 b.toNat).toList = (bs.data.toList.take k).map fun b => Value.int .u8 b.toNat := by
      simp [ByteArray.data_extract, List.extract_eq_take_drop]
    rw [e1, ← List.map_take, List.map_map]
    refine ⟨by simp, fun i x y hx hy => ?_⟩
    rw [List.getElem?_map] at hx hy
    cases hb : (bs.data.toList.take k)[i]? with
    | none => rw [hb] at hx; cases hx
    | some u => rw [hb] at hx hy; cases hx; cases hy; exact .int _ _
  · cases hs
end
end Go.Ax
namespace Go.Ax
section
variable {P : Program} {F : Nat → Option Obj} {m : Loc} {gl : Nat → AV} {eqT : Knob}
theorem isSrc_cases {d : TypeDesc} (h : q8I d = true) : (∃ e, d = .slice e) ∨ d = .string := by cases d <;> first | (exact .inl ⟨_, rfl⟩) | (exact .inr rfl) | cases h
theorem q7Y {t xt ty e : TypeId} {dx : TypeDesc} {i : TypeInfo} {ts : Array TypeId} {args : Array Value} {w w' : World} (t0 : ts[0]? = some t) (t1 : ts[1]? = some xt) (ht : P.underlying t = some (.slice e)) (hxt : P.underlying xt = some dx) (hdx : q8I dx = true) (hi : P.info? e = some i)
    {base : Option Addr} {sLen sCap n : Nat} {x : Value} {arr : Array Value} (a0 : args[0]? = some (.slice base sLen sCap)) (a1 : args[1]? = some x) (hL : (Builtin.lenOf x).run P w = .ok n w) (hF : (Builtin.firstCells i.size n x).run P w = .ok arr w)
    (hroom : sLen + n ≤ sCap) (hst : (match base with | some a => storeCells (a.add (sLen * i.size)) arr.toList | none => pure () : Sem Unit).run P w = .ok () w') :
    (Builtin.append_ ts ty args).run P w = .ok (.slice base (sLen + n) sCap) w' := by
  rcases isSrc_cases hdx with ⟨e2, rfl⟩ | rfl
  all_goals cases base with
  | none =>
    simp at hst
    subst hst
    simp [Builtin.append_, t0, t1, a0, a1, run_underlying ht, run_underlying hxt, sizeOf, typeInfo, hi, hL, hF, hroom]
  | some a =>
    simp only at hst
    simp [Builtin.append_, t0, t1, a0, a1, run_underlying ht, run_underlying hxt, sizeOf, typeInfo, hi, hL, hF, hroom, hst]
theorem z0d {t xt ty e : TypeId} {dx : TypeDesc} {i : TypeInfo} {z : Value} {ts : Array TypeId} {args : Array Value} {w : World} (t0 : ts[0]? = some t) (t1 : ts[1]? = some xt) (ht : P.underlying t = some (.slice e)) (hxt : P.underlying xt = some dx) (hdx : q8I dx = true) (hi : P.info? e = some i) (hz : i.zero = some z)
  {base : Option Addr} {sLen sCap n : Nat} {x : Value} {olds arr : Array Value} (a0 : args[0]? = some (.slice base sLen sCap)) (a1 : args[1]? = some x) (hL : (Builtin.lenOf x).run P w = .ok n w) (hF : (Builtin.firstCells i.size n x).run P w.drew = .ok arr w.drew)
  (hO : (Builtin.firstCells i.size sLen (.slice base sLen sCap)).run P w.drew = .ok olds w.drew) (hroom : sCap < sLen + n) (h63 : sLen + n ≤ 1000000) (hb : i.bytes ≤ 1000000) :
  ∃ cap rest, sLen + n ≤ cap ∧ rest.size = (cap - (sLen + n)) * z.cells.size ∧ (Builtin.append_ ts ty args).run P w = .ok (.slice (some ⟨w.heap.size, 0, none⟩) (sLen + n) cap) (w.drew.alloc (.cells (olds ++ arr ++ rest) e)) := by
 have hn : ¬ (sLen + n ≤ sCap) := by omega
 have h63' : ¬ (9223372036854775807 < ((sLen : Int) + (n : Int))) := by omega
 have h48' : ¬ (281474976710656 < Builtin.nextslicecap (sLen + n) sCap * i.bytes) := by
  have h1 := nextslicecap_le hroom
  have h2 : Builtin.nextslicecap (sLen + n) sCap * i.bytes ≤ 2000000 * 1000000 := Nat.mul_le_mul (by omega) hb
  omega
 refine ⟨grownCap w (sLen + n) sCap e, Builtin.zeroCells z.cells (grownCap w (sLen + n) sCap e - (sLen + n)), grownCap_ge w _ _ _, size_zeroCells _ _, ?_⟩
 rcases isSrc_cases hdx with ⟨e2, rfl⟩ | rfl
 all_goals simp [Builtin.append_, t0, t1, a0, a1, run_underlying ht, run_underlying hxt, sizeOf, typeInfo, zeroValue, hi, hz, hL, hn, h63', h48', Question.forced, hF, hO, newRow, grownCap]
theorem Step.moveIn {h : Hp} {w w' : World} (hr : HRel P F m h w) (hn : m h.nx = none) {r : Nat} {q : AObj} {b z : Nat} (hg : h.get r = some q) (hq : q.live = true) (hm : m r = some (b, z)) {o : AObj} {ob : Obj}
  (hat : w'.heap[b]? = some ob) (hne : ∀ c, c ≠ b → w'.heap[c]? = w.heap[c]?) (hsz : w'.heap.size = w.heap.size) (hs : SameOut w w') (ho : ORel P F (m.put h.nx b z) z o (some ob)) :
  Step P F m h ((h.put r .dead).new o) w w' (m.put h.nx b z) := by
 have hle : Loc.le m (m.put h.nx b z) := Loc.le_put hn
 have hbl : b < w.heap.size := hr.lt hg hq hm
 have get' : ∀ s, ((h.put r .dead).new o).get s = if h.nx = s then some o else if r = s then some .dead else h.get s := fun s => by
  rw [Hp.get_new, Hp.get_put]; rfl
 have hF := hr.out r q b z hg hq hm
 refine ⟨hle, ?_, ⟨?_, ?_, ?_, ?_, fun s hs' => by
  have hs' : h.nx + 1 ≤ s := hs'
  have hw := hr.wf s (by omega)
  rw [get', if_neg (by omega), if_neg (fun e => by rw [← e, hg] at hw; cases hw)]; exact hw⟩, hs, (by rw [hsz]; exact Nat.le_refl _), ?_, Nat.le_succ _, ?_, ?_, fun b o h => .inl h⟩
 ·intro s c hc hn'
  by_cases h' : s = h.nx
  ·subst h'; exact ⟨Nat.le_refl _, Nat.lt_succ_self _⟩
  ·rw [Loc.put_ne m _ _ h', hn'] at hc; cases hc
 ·intro s p c y hg' hm'
  rw [get'] at hg'
  by_cases h' : h.nx = s
  ·rw [if_pos h'] at hg'; cases hg'
   subst h'
   rw [Loc.put_same] at hm'; cases hm'
   rw [hat]; exact ho
  ·rw [if_neg h'] at hg'
   rw [Loc.put_ne m _ _ (fun e => h' e.symm)] at hm'
   by_cases h2 : r = s
   ·rw [if_pos h2] at hg'; cases hg'; trivial
   ·rw [if_neg h2] at hg'
    have h1 := hr.obj s p c y hg' hm'
    by_cases hl : p.live = true
    ·have hc : c ≠ b := fun e => h2 (hr.inj r s q p b z y hg hq hg' hl hm (e ▸ hm'))
     rw [hne c hc]; exact h1.mono hle
    ·cases p <;> first | trivial
 ·intro s t p p' c y y' hg1 hl1 hg2 hl2 hm1 hm2
  rw [get'] at hg1 hg2
  have e1 : ∃ s', (s' = s ∧ h.nx ≠ s ∧ r ≠ s ∧ h.get s = some p ∧ m s = some (c, y)) ∨ (s = h.nx ∧ c = b) := by
   by_cases h' : h.nx = s
   ·subst h'; rw [Loc.put_same] at hm1; cases hm1; exact ⟨0, .inr ⟨rfl, rfl⟩⟩
   ·rw [if_neg h'] at hg1
    rw [Loc.put_ne m _ _ (fun e => h' e.symm)] at hm1
    by_cases h2 : r = s
    ·rw [if_pos h2] at hg1; cases hg1; cases hl1
    ·rw [if_neg h2] at hg1; exact ⟨s, .inl ⟨rfl, h', h2, hg1, hm1⟩⟩
  have e2 : ∃ s', (s' = t ∧ h.nx ≠ t ∧ r ≠ t ∧ h.get t = some p' ∧ m t = some (c, y')) ∨ (t = h.nx ∧ c = b) := by
   by_cases h' : h.nx = t
   ·subst h'; rw [Loc.put_same] at hm2; cases hm2; exact ⟨0, .inr ⟨rfl, rfl⟩⟩
   ·rw [if_neg h'] at hg2
    rw [Loc.put_ne m _ _ (fun e => h' e.symm)] at hm2
    by_cases h2 : r = t
    ·rw [if_pos h2] at hg2; cases hg2; cases hl2
    ·rw [if_neg h2] at hg2; exact ⟨t, .inl ⟨rfl, h', h2, hg2, hm2⟩⟩
  obtain ⟨_, ⟨_, n1, r1, g1, l1⟩ | ⟨rfl, rfl⟩⟩ := e1
  ·obtain ⟨_, ⟨_, n2, r2, g2, l2⟩ | ⟨rfl, rfl⟩⟩ := e2
   ·exact hr.inj s t p p' c y y' g1 hl1 g2 hl2 l1 l2
   ·exact absurd (hr.inj r s q p c z y hg hq g1 hl1 hm l1) r1
  ·obtain ⟨_, ⟨_, n2, r2, g2, l2⟩ | ⟨rfl, _⟩⟩ := e2
   ·exact absurd (hr.inj r t q p' c z y' hg hq g2 hl2 hm l2) r2
   ·rfl
 ·intro s p c y hg' hl hm'
  rw [get'] at hg'
  by_cases h' : h.nx = s
  ·subst h'; rw [Loc.put_same] at hm'; cases hm'; exact hF
  ·rw [if_neg h'] at hg'
   rw [Loc.put_ne m _ _ (fun e => h' e.symm)] at hm'
   by_cases h2 : r = s
   ·rw [if_pos h2] at hg'; cases hg'; cases hl
   ·rw [if_neg h2] at hg'; exact hr.out s p c y hg' hl hm'
 ·intro c x hx
  have hc : c ≠ b := fun e => by
   rw [e] at hx
   rcases hx with hx | hx
   ·rw [hF.1] at hx; cases hx
   ·have hx : m.fz b = some x := hx
    rw [hF.2] at hx; cases hx
  rw [hne c hc]; exact hr.frz c x hx
 ·intro c hc hall
  exact hne c (fun e => hall r q z hg hq (e ▸ hm))
 ·intro s o' c hg' hl hms
  rw [get'] at hg'
  by_cases h' : h.nx = s
  ·subst h'; rw [hn] at hms; cases hms
  ·rw [if_neg h'] at hg'
   by_cases h2 : r = s
   ·rw [if_pos h2] at hg'; cases hg'; cases hl
   ·rw [if_neg h2] at hg'; exact ⟨o', hg', hl⟩
 ·intro s c y hc hn' _
  by_cases h' : s = h.nx
  ·subst h'; rw [Loc.put_same] at hc; cases hc; exact .inr ⟨r, q, z, hg, hq, hm⟩
  ·rw [Loc.put_ne m _ _ h', hn'] at hc; cases hc
end
end Go.Ax
namespace Go.Ax
section
variable {P : Program} {F : Nat → Option Obj} {m : Loc} {gl : Nat → AV} {eqT : Knob}
theorem newRow_stepD {h : Hp} {w w1 : World} (hr : HRel P F m h w) (hn : m h.nx = none) (e : TypeId) {cs : List AV} {cells : Array Value} (hle : cs.length ≤ cells.size) (hc : ∀ (i : Nat) (x : AV) (y : Value), cs[i]? = some x → cells[i]? = some y → VRel P F m x y)
  (hh : w1.heap = w.heap.push (.cells cells e)) (hs : SameOut w w1) : Step P F m h (h.new (.cells e cs)) w w1 (m.put h.nx w.heap.size cells.size) :=
 Step.alloc hr hn hh hs ⟨cells, rfl, rfl, hle, fun i x y hx hy => (hc i x y hx hy).mono (Loc.le_put hn)⟩
theorem LRel.append_rest {l : List AV} {a rest : Array Value} (h : LRel P F m l a.toList) : l.length ≤ (a ++ rest).size ∧ ∀ (i : Nat) (x : AV) (y : Value), l[i]? = some x → (a ++ rest)[i]? = some y → VRel P F m x y := by
 have hl := h.len
 simp at hl
 refine ⟨by simp; omega, fun i x y hx hy => ?_⟩
 have hi : i < l.length := (List.getElem?_eq_some_iff.1 hx).1
 rw [Array.getElem?_append_left (by omega)] at hy
 exact h.at' i x y hx (by simpa using hy)
theorem appendA_rel {st xt ty : TypeId} {s x v : AV} {cs cx : Value} {ts : Array TypeId} {args : Array Value} {h h' : Hp} {w : World} (t0 : ts[0]? = some st) (t1 : ts[1]? = some xt) (a0 : args[0]? = some cs) (a1 : args[1]? = some cx)
    (ha : q0S (Ctx.of P gl eqT) st xt s x h = some (v, h')) (hs : VRel P F m s cs) (hx : VRel P F m x cx) (hr : HRel P F m h w) (hn : ∀ r, h.nx ≤ r → r < h'.nx → m r = none) :
    ∃ cv w' m', (Builtin.append_ ts ty args).run P w = .ok cv w' ∧ Step P F m h h' w w' m' ∧ VRel P F m' v cv := by
  unfold q0S at ha
  split at ha
  case h_2 => cases ha
  rename_i e size isAgg zero zeroOk bytes comparable zv xi k hst hxt hk
  have hu := q1q hst
  dsimp only at hu
  have hux := q1q hxt
  split at ha
  · cases ha
  · cases ha
  rename_i y hy hsrc
  split at ha
  · cases ha
  rename_i new hnew
  cases hc : (new.all q0P && (Nat.ble y.bytes 1000000 && Nat.beq new.length (Nat.mul k y.size))) with
  | false => rw [hc] at ha; cases ha
  | true =>
  rw [hc] at ha
  simp only [cond_true] at ha
  obtain ⟨c1, c2⟩ := q0p hc
  obtain ⟨c2, c3⟩ := q0p c2
  have c2 := Nat.le_of_ble_eq_true c2
  have c3 : new.length = k * y.size := Nat.eq_of_beq_eq_true c3
  obtain ⟨i, hi, e1, e2, _⟩ := q6q hy
  obtain ⟨arr, hF, hnl⟩ := q7g (w0 := w) hnew hx hr rfl
  obtain ⟨arr', hF', hnl'⟩ := q7g (w0 := w.drew) hnew hx hr rfl
  rw [e1] at hF hF'
  have hL := lenA_rel (w := w) hk hx
  split at ha
  · -- a nil slice
    obtain rfl := hs.nilsl_inv
    cases hk0 : Nat.beq k 0 with
    | true =>
      rw [hk0] at ha
      cases ha
      have hk0 := Nat.eq_of_beq_eq_true hk0
      subst hk0
      exact ⟨_, w, m, q7Y t0 t1 hu hux hsrc hi a0 a1 hL hF (Nat.le_refl _) (by simp), Step.refl hr rfl (SameOut.refl w), .nilsl⟩
    | false =>
      rw [hk0] at ha
      simp only [cond_false] at ha
      obtain ⟨hb, he⟩ := q0l ha
      cases he
      obtain ⟨hz, hb⟩ := q0p hb
      have hb := Nat.le_of_ble_eq_true hb
      have hkp : 0 < k := by rw [q7N] at hk0; simp at hk0; omega
      obtain ⟨i', z, hi', hiz, hsz, hzl, hzs⟩ := ti_zero (P := P) (F := F) (m := m) hy hz
      rw [hi] at hi'; cases hi'
      obtain ⟨cap, rest, hcap, hrest, hrun⟩ := z0d (olds := #[]) t0 t1 hu hux hsrc hi hiz a0 a1 hL hF' (by simp [Builtin.firstCells]) (by omega) (by omega) (by omega)
      have hn' := hn h.nx (Nat.le_refl _) (Nat.lt_succ_self _)
      obtain ⟨g1, g2⟩ := hnl'.append_rest (rest := rest)
      rw [Nat.zero_add] at hcap hrest hrun
      simp only [Array.empty_append] at hrun
      refine ⟨_, _, _, hrun, newRow_stepD hr hn' e g1 g2 rfl ⟨rfl, rfl, rfl⟩, .sl (z := _) (Loc.put_same _ _ _ _) (Nat.le_refl _) hcap (fun h => by cases h) ?_⟩
      have hal : arr'.size = k * y.size := by have := hnl'.len; simp at this; omega
      rw [Array.size_append, hal, hrest, hzs, ← Nat.add_mul, Nat.add_sub_cancel' hcap, Nat.zero_add]
      exact Nat.le_refl _
  · -- a slice of ours
    rename_i r o len cap es ex
    obtain ⟨b, z, ccap, hm, rfl, h1, h2, h3, h4⟩ := hs.sl_inv
    split at ha
    case h_2 => cases ha
    rename_i e' ccs hg
    cases hc2 : (Nat.beq es y.size && (Nat.ble (Nat.add o (Nat.mul len es)) ccs.length && Nat.ble (Nat.add len k) 1000000)) with
    | false => rw [hc2] at ha; cases ha
    | true =>
    rw [hc2] at ha
    simp only [cond_true] at ha
    obtain ⟨d1, d2⟩ := q0p hc2
    obtain ⟨d2, d3⟩ := q0p d2
    obtain rfl := Nat.eq_of_beq_eq_true d1
    have d2 : o + len * y.size ≤ ccs.length := Nat.le_of_ble_eq_true d2
    have d3 : len + k ≤ 1000000 := Nat.le_of_ble_eq_true d3
    obtain ⟨row, g1, g2, g3, g4⟩ := hr.obj r _ b z hg hm
    cases hin : Nat.ble (Nat.add len k) cap with
    | true =>
      rw [hin] at ha
      have hin : len + k ≤ cap := Nat.le_of_ble_eq_true hin
      obtain ⟨hfit, he⟩ := q0l ha
      cases he
      have hfit : o + len * y.size + new.length ≤ ccs.length := Nat.le_of_ble_eq_true hfit
      obtain ⟨w', hst', hstep⟩ := Step.cells hr hg hm hnl c1 hfit
      refine ⟨_, w', m, q7Y t0 t1 hu hux hsrc hi a0 a1 hL hF (by omega) ?_, hstep, .sl hm hin h2 h3 h4⟩
      rw [← e1]; simp only [q2H]; exact hst'
    | false =>
      rw [hin] at ha
      have hin : cap < len + k := by
        rcases Nat.lt_or_ge cap (len + k) with h' | h'
        · exact h'
        · have : Nat.ble (Nat.add len k) cap = true := Nat.ble_eq_true_of_le h'
          rw [this] at hin; cases hin
      simp only [cond_false] at ha
      cases hz : y.zeroOk with
      | false => rw [hz] at ha; cases ha
      | true =>
      rw [hz] at ha
      simp only [Bool.not_true, cond_false] at ha
      obtain ⟨i', zv, hi', hiz, hsz, hzl, hzs⟩ := ti_zero (P := P) (F := F) (m := m) hy hz
      rw [hi] at hi'; cases hi'
      -- what lies in the slice
      have hO : ∀ w0 : World, w0.heap = w.heap → ∃ olds, (Builtin.firstCells y.size len (.slice (some ⟨b, o, none⟩) len ccap)).run P w0 = .ok olds w0 ∧ LRel P F m ((ccs.drop o).take (len * y.size)) olds.toList := fun w0 hw0 => by
        refine q7g (h := h) (es := y.size) (k := len) (x := .sl r o len cap y.size ex) (w := w) ?_ hs hr hw0
        unfold q1e
        have e3 : (Nat.ble len len && Nat.beq y.size y.size) = true := by simp
        dsimp only
        rw [e3, hg]
        simp only [cond_true]
        unfold sub
        have e4 : Nat.ble (Nat.add o (Nat.mul len y.size)) ccs.length = true := Nat.ble_eq_true_of_le d2
        rw [e4]; rfl
      -- in a new block
      have out : ∀ (hh : Hp) (ec : TypeId), ec = e → HRel P F m hh w → hh.nx = h.nx → m h.nx = none → ccap < len + k → ∃ cv w' m', (Builtin.append_ ts ty args).run P w = .ok cv w' ∧
          Step P F m hh (hh.new (.cells ec ((ccs.drop o).take (len * y.size) ++ new))) w w' m' ∧ VRel P F m' (.sl h.nx 0 (len + k) (len + k) y.size false) cv := by
        intro hh ec hec hrr hnx hn0 hlt
        subst hec
        obtain ⟨olds, hO1, hO2⟩ := hO w.drew rfl
        rw [e1] at hO1
        obtain ⟨ncap, rest, hcap, hrest, hrun⟩ := z0d t0 t1 hu hux hsrc hi hiz a0 a1 hL hF' hO1 hlt d3 (by omega)
        have hn' : m hh.nx = none := by rw [hnx]; exact hn0
        have hon : LRel P F m ((ccs.drop o).take (len * y.size) ++ new) (olds ++ arr').toList := by
          rw [Array.toList_append]; exact hO2.append hnl'
        obtain ⟨g1', g2'⟩ := hon.append_rest (rest := rest)
        refine ⟨_, _, _, hrun, newRow_stepD hrr hn' ec g1' g2' rfl ⟨rfl, rfl, rfl⟩, ?_⟩
        rw [← hnx]
        refine .sl (z := _) (Loc.put_same _ _ _ _) (Nat.le_refl _) hcap (fun h => by cases h) ?_
        have hal : arr'.size = k * y.size := by have := hnl'.len; simp at this; omega
        have hol : olds.size = len * y.size := by have := hO2.len; simp at this; omega
        rw [Array.size_append, Array.size_append, hal, hol, hrest, hzs, Nat.zero_add, ← Nat.add_mul, ← Nat.add_mul, Nat.add_sub_cancel' hcap]
        exact Nat.le_refl _
      cases hex : ex with
      | true =>
        rw [hex] at ha
        simp only [cond_true] at ha
        cases ha
        exact out h e rfl hr rfl (hn h.nx (Nat.le_refl _) (Nat.lt_succ_self _)) (by have := h3 hex; omega)
      | false =>
        rw [hex] at ha
        simp only [cond_false] at ha
        cases ho : (Nat.beq o 0 && Nat.ble (Nat.mul len y.size) ccs.length) with
        | false => rw [ho] at ha; cases ha
        | true =>
        rw [ho] at ha
        simp only [cond_true] at ha
        obtain ⟨hee, he⟩ := q0l ha
        cases he
        obtain rfl := Nat.eq_of_beq_eq_true hee
        obtain rfl := Nat.eq_of_beq_eq_true (q0p ho).1
        have hn' := hn h.nx (Nat.le_refl _) (Nat.lt_succ_self _)
        rw [Nat.zero_add] at d2
        rcases Nat.lt_or_ge ccap (len + k) with hlt | hge
        · -- it grows
          have hput := Step.put (w' := w) hr hg rfl hm (o := .dead) g1 (fun _ _ => rfl) rfl (SameOut.refl w) trivial
          obtain ⟨cv, w', m', hrun, hstep, hv⟩ := out (h.put r .dead) e rfl hput.rel rfl hn' hlt
          refine ⟨cv, w', m', hrun, ?_, hv⟩
          have := hput.trans hstep
          simpa using this
        · -- there is room
          have hal : new.length = arr.size := by have := hnl.len; simpa using this
          have hfit : len * y.size + arr.toList.length ≤ row.size := by
            rw [Array.length_toList, ← hal, c3, ← Nat.add_mul, g2]
            have : (len + k) * y.size ≤ ccap * y.size := Nat.mul_le_mul_right _ hge
            omega
          have hst' := run_storeCells_at P b (len * y.size) e arr.toList 0 row w g1 (by simpa using hfit) (hnl.one c1)
          simp only [Nat.add_zero] at hst'
          have hat := setRow_heap w b row (row.toList.take (len * y.size) ++ arr.toList ++ row.toList.drop (len * y.size + arr.toList.length)).toArray e (0, 0) g1
          refine ⟨_, _, m.put h.nx b z, q7Y t0 t1 hu hux hsrc hi a0 a1 hL hF (by omega) (by rw [← e1]; simp only [q2H, Nat.zero_add]; exact hst'),
            Step.moveIn hr hn' hg rfl hm (o := .cells e (ccs.take (len * y.size) ++ new)) hat (fun c hcb => setRow_other w b c _ hcb) (setRow_size w b _) ⟨rfl, rfl, rfl⟩ ?_, ?_⟩
          · refine ⟨_, rfl, by simp at hfit ⊢; omega, by simp at hfit ⊢; omega, fun j p q hp hq => ?_⟩
            have hq : ((row.toList.take (len * y.size) ++ arr.toList) ++ row.toList.drop (len * y.size + arr.toList.length))[j]? = some q := by simpa using hq
            have hjl : j < (ccs.take (len * y.size) ++ new).length := (List.getElem?_eq_some_iff.1 hp).1
            simp at hjl hfit
            rw [List.getElem?_append_left (by simp; omega)] at hq
            have hpre : LRel P F m (ccs.take (len * y.size) ++ new) (row.toList.take (len * y.size) ++ arr.toList) := by
              refine LRel.append ⟨by simp; omega, fun i' x' y' hx' hy' => ?_⟩ hnl
              rw [List.getElem?_take] at hx' hy'
              split at hx'
              · rename_i hi'; rw [if_pos hi'] at hy'; exact g4 i' x' y' hx' (by simpa using hy')
              · cases hx'
            exact (hpre.at' j p q hp hq).mono (Loc.le_put hn')
          · refine .sl (z := z) (Loc.put_same _ _ _ _) (Nat.le_refl _) hge (fun h => by cases h) h4
  · cases ha
theorem copyA_rel {dt ty : TypeId} {d x v : AV} {cd cx : Value} {ts : Array TypeId} {args : Array Value} {h h' : Hp} {w : World} (t0 : ts[0]? = some dt) (a0 : args[0]? = some cd) (a1 : args[1]? = some cx)
  (ha : copyA (Ctx.of P gl eqT) dt d x h = some (v, h')) (hd : VRel P F m d cd) (hx : VRel P F m x cx) (hr : HRel P F m h w) :
  ∃ cv w', (Builtin.copy_ ts ty args).run P w = .ok cv w' ∧ Step P F m h h' w w' m ∧ VRel P F m v cv := by
 unfold copyA at ha; cases ha
end
end Go.Ax
namespace Go.Ax
section
variable {P : Program} {F : Nat → Option Obj} {m : Loc} {gl : Nat → AV} {eqT : Knob}
theorem q3A {α : Type} {c : Bool} {a : Option α} {x : α} (h : (bif c then a else none) = some x) : c = true ∧ a = some x := by cases c <;> first | exact ⟨rfl, h⟩ | cases h
def notCells : Obj → Bool
 | .cells .. => false
 | _ => true
theorem q9E {w : World} {r : Nat} {o : Obj} (h : w.heap[r]? = some o) (hc : notCells o = true) : (getObj r).run P w = .ok o w := by
 cases o with
 | cells _ _ _ => cases hc
 | _ => simp [getObj, Sem.run, h]
theorem q9D {w : World} {r : Nat} {o : Obj} (h : w.heap[r]? = some o) (hc : notCells o = true) (o' : Obj) : (setObj r o').run P w = .ok () { w with heap := w.heap.setIfInBounds r o' } := by
 cases o with
 | cells _ _ _ => cases hc
 | _ => simp [setObj, Sem.run, h]
theorem Step.obj {h : Hp} {w : World} (hr : HRel P F m h w) {r : Nat} {q : AObj} {b z : Nat} (hg : h.get r = some q) (hq : q.live = true) (hm : m r = some (b, z)) {o : AObj} {ob : Obj} (ho : ORel P F m z o (some ob)) :
  Step P F m h (h.put r o) w { w with heap := w.heap.setIfInBounds b ob } m := by
 have hlt := hr.lt hg hq hm
 refine Step.put hr hg hq hm (by simp [hlt]) (fun c hc => ?_) (by simp) ⟨rfl, rfl, rfl⟩ ho
 simp [Array.getElem?_setIfInBounds_ne (Ne.symm hc)]
theorem lookupA_rel (hE : EqOk P eqT) {t : TypeId} {x k v : AV} {cx ck : Value} {ok : Bool} {h : Hp} {w : World} (hl : q7K (Ctx.of P gl eqT) t x k ok h = some v) (hx : VRel P F m x cx) (hk : VRel P F m k ck) (hr : HRel P F m h w) :
  ∃ cv, (Instr.lookup t cx ck ok).run P w = .ok cv w ∧ VRel P F m v cv := by
 unfold q7K at hl; cases hl
theorem mapPut_rel (hE : EqOk P eqT) {t : TypeId} {x k v : AV} {cx ck cv : Value} {h h' : Hp} {w : World} (hp : z1e (Ctx.of P gl eqT) t x k v h = some h') (hx : VRel P F m x cx) (hk : VRel P F m k ck) (hv : VRel P F m v cv) (hr : HRel P F m h w) :
  ∃ w', (Instr.mapUpdate t cx ck cv).run P w = .ok () w' ∧ Step P F m h h' w w' m := by
 unfold z1e at hp; cases hp
theorem mapDel_rel (hE : EqOk P eqT) {t rt : TypeId} {ts : Array TypeId} {x k : AV} {cx ck : Value} {h h' : Hp} {w : World} (hp : mapDel (Ctx.of P gl eqT) t x k h = some h') (hts : ts[0]? = some t) (hx : VRel P F m x cx) (hk : VRel P F m k ck) (hr : HRel P F m h w) :
  ∃ w', (Builtin.delete_ ts rt #[cx, ck]).run P w = .ok (.tuple #[]) w' ∧ Step P F m h h' w w' m := by
 unfold mapDel at hp; cases hp
theorem typeAssertA_rel {x v : AV} {cx : Value} {xt t : TypeId} {ok : Bool} {w : World} (h : z0o P (Ctx.of P gl eqT) x t ok = some v) (hx : VRel P F m x cx) : ∃ cv, (Instr.typeAssert cx xt t ok).run P w = .ok cv w ∧ VRel P F m v cv := by
 unfold z0o at h; cases h
end
end Go.Ax
namespace Go.Ax
structure HpLe (h h' : Hp) : Prop where
 nx : h.nx ≤ h'.nx
 lo : h'.lo ≤ h.lo
 same : ∀ r, r < h.nx → r < h'.lo → h'.get r = h.get r
 wf : (∀ r, h.nx ≤ r → h.get r = none) → ∀ r, h'.nx ≤ r → h'.get r = none
theorem HpLe.refl (h : Hp) : HpLe h h := ⟨Nat.le_refl _, Nat.le_refl _, fun _ _ _ => rfl, fun h => h⟩
theorem HpLe.trans {a b c : Hp} (h : HpLe a b) (k : HpLe b c) : HpLe a c :=
 ⟨Nat.le_trans h.nx k.nx, Nat.le_trans k.lo h.lo, fun r h1 h2 => (k.same r (Nat.lt_of_lt_of_le h1 h.nx) h2).trans (h.same r h1 (Nat.lt_of_lt_of_le h2 k.lo)), fun hw => k.wf (h.wf hw)⟩
theorem HpLe.new (h : Hp) (o : AObj) : HpLe h (h.new o) :=
  ⟨Nat.le_succ _, Nat.le_refl _, fun r h1 _ => by rw [Hp.get_new, if_neg (by omega)], fun hw r hr => by
    have hr : h.nx + 1 ≤ r := hr
    rw [Hp.get_new, if_neg (by omega)]; exact hw r (by omega)⟩
theorem HpLe.put {h : Hp} {r : Nat} {q : AObj} (hg : h.get r = some q) (o : AObj) : HpLe h (h.put r o) := by
  refine ⟨Nat.le_refl _, ?_, fun s _ h2 => ?_, fun hw s hs => ?_⟩
  · show (bif Nat.ble h.lo r then h.lo else r) ≤ h.lo
    cases hb : Nat.ble h.lo r with
    | true => exact Nat.le_refl _
    | false =>
      simp only [cond_false]
      rcases Nat.lt_or_ge r h.lo with h' | h'
      · omega
      · have := Nat.ble_eq_true_of_le h'; rw [this] at hb; cases hb
  · have h2 : s < (bif Nat.ble h.lo r then h.lo else r) := h2
    have : s < r := by
      cases hb : Nat.ble h.lo r with
      | true => rw [hb] at h2; have := Nat.le_of_ble_eq_true hb; simp only [cond_true] at h2; omega
      | false => rw [hb] at h2; exact h2
    rw [Hp.get_put, if_neg (by omega)]
  · rw [Hp.get_put]
    split
    · rename_i e; subst e
      have := hw r hs
      rw [hg] at this; cases this
    · exact hw s hs
section
variable {P : Program} {gl : Nat → AV} {eqT : Knob} {C : Ctx} {h h' : Hp}
theorem alloc_le {t : TypeId} {v : AV} (ha : alloc C t h = some (v, h')) : HpLe h h' := by
 unfold alloc at ha
 split at ha
 ·obtain ⟨_, he⟩ := q0l ha; cases he; exact .new _ _
 ·cases ha
theorem box_le {t : TypeId} {x v : AV} (ha : box t x h = some (v, h')) : HpLe h h' := by
 unfold box at ha
 split at ha
 ·cases ha; exact .new _ _
 ·cases ha
theorem buildSlice_le {t : TypeId} {n : Nat} {ps : List (Nat × AV)} {v : AV} (ha : buildSlice C t n ps h = some (v, h')) : HpLe h h' := by
  unfold buildSlice at ha
  split at ha
  case h_2 => cases ha
  split at ha
  case h_2 => cases ha
  rename_i x _
  cases hc : (x.zeroOk && Nat.ble (Nat.mul n x.size) 1000000) with
  | false => rw [hc] at ha; cases ha
  | true =>
    rw [hc] at ha
    simp only [cond_true] at ha
    split at ha
    · cases ha; exact .new _ _
    · cases ha
theorem makeSlice_le {t : TypeId} {l c v : AV} (ha : makeSlice C t l c h = some (v, h')) : HpLe h h' := by
 unfold makeSlice at ha; cases ha
theorem storeAt_le {t : TypeId} {p v : AV} (ha : storeAt C t p v h = some h') : HpLe h h' := by
 unfold storeAt at ha
 split at ha
 case h_2 => cases ha
 split at ha
 case h_2 => cases ha
 rename_i hg
 obtain ⟨_, he⟩ := q0l ha
 cases he; exact .put hg _
theorem mapPut_le {t : TypeId} {x k v : AV} (ha : z1e C t x k v h = some h') : HpLe h h' := by
 unfold z1e at ha; cases ha
theorem mapDel_le {t : TypeId} {x k : AV} (ha : mapDel C t x k h = some h') : HpLe h h' := by
 unfold mapDel at ha; cases ha
theorem appendA_le {st xt : TypeId} {s x v : AV} (ha : q0S C st xt s x h = some (v, h')) : HpLe h h' := by
  unfold q0S at ha
  split at ha
  case h_2 => cases ha
  rename_i e size isAgg zero zeroOk bytes comparable zv xi k hst hxt hk
  split at ha
  · cases ha
  · cases ha
  rename_i y hy hsrc
  split at ha
  · cases ha
  rename_i new hnew
  cases hc : (new.all q0P && (Nat.ble y.bytes 1000000 && Nat.beq new.length (Nat.mul k y.size))) with
  | false => rw [hc] at ha; cases ha
  | true =>
  rw [hc] at ha
  simp only [cond_true] at ha
  split at ha
  · cases hk : Nat.beq k 0 with
    | true => rw [hk] at ha; cases ha; exact .refl _
    | false => rw [hk] at ha; obtain ⟨_, he⟩ := q0l ha; cases he; exact .new _ _
  · rename_i r o len cap es ex
    split at ha
    case h_2 => cases ha
    rename_i e' cs hg
    cases hc2 : (Nat.beq es y.size && (Nat.ble (Nat.add o (Nat.mul len es)) cs.length && Nat.ble (Nat.add len k) 1000000)) with
    | false => rw [hc2] at ha; cases ha
    | true =>
    rw [hc2] at ha
    simp only [cond_true] at ha
    cases hin : Nat.ble (Nat.add len k) cap with
    | true => rw [hin] at ha; obtain ⟨_, he⟩ := q0l ha; cases he; exact .put hg _
    | false =>
      rw [hin] at ha
      simp only [cond_false] at ha
      cases hz : y.zeroOk with
      | false => rw [hz] at ha; cases ha
      | true =>
        rw [hz] at ha
        simp only [Bool.not_true, cond_false] at ha
        cases ex with
        | true => simp only [cond_true] at ha; cases ha; exact .new _ _
        | false =>
          simp only [cond_false] at ha
          cases ho : (Nat.beq o 0 && Nat.ble (Nat.mul len es) cs.length) with
          | false => rw [ho] at ha; cases ha
          | true =>
            rw [ho] at ha
            obtain ⟨_, he⟩ := q0l ha
            cases he; exact (HpLe.put hg _).trans (.new _ _)
  · cases ha
theorem copyA_le {dt : TypeId} {d x v : AV} (ha : copyA C dt d x h = some (v, h')) : HpLe h h' := by
 unfold copyA at ha; cases ha
end
inductive DefRel (P : Program) (F : Nat → Option Obj) (m : Loc) : ADef → Deferred → Prop
 | coll {r b z : Nat} (h : m r = some (b, z)) : DefRel P F m (.coll r) { target := .collected b, args := #[] }
 | fn {g : FuncId} {cap args : List AV} {ccap cargs : Array Value} (h1 : LRel P F m cap ccap.toList) (h2 : LRel P F m args cargs.toList) : DefRel P F m (.fn (.func g) cap args) { target := .fn (.func g) ccap, args := cargs }
 | clr {t ty : TypeId} {x : AV} {cx : Value} {ts : Array TypeId} {k : Array Bool} {args : Array Value} (ht : ts[0]? = some t) (ha : args[0]? = some cx) (hx : VRel P F m x cx) : DefRel P F m (.clr t x) { target := .builtin .clear ts ty k, args := args }
inductive DsRel (P : Program) (F : Nat → Option Obj) (m : Loc) : List ADef → List Deferred → Prop
 | nil : DsRel P F m [] []
 | cons {d : ADef} {c : Deferred} {ds : List ADef} {cs : List Deferred} (h : DefRel P F m d c) (hs : DsRel P F m ds cs) : DsRel P F m (d :: ds) (c :: cs)
theorem DefRel.mono {P : Program} {F : Nat → Option Obj} {m m' : Loc} (hm : Loc.le m m') {d : ADef} {c : Deferred} (h : DefRel P F m d c) : DefRel P F m' d c := by
 cases h with
 | coll h => exact .coll (hm _ _ h)
 | fn h1 h2 => exact .fn (h1.mono hm) (h2.mono hm)
 | clr ht ha hx => exact .clr ht ha (hx.mono hm)
theorem DsRel.mono {P : Program} {F : Nat → Option Obj} {m m' : Loc} (hm : Loc.le m m') {d : List ADef} {c : List Deferred} (h : DsRel P F m d c) : DsRel P F m' d c := by
 induction h with
 | nil => exact .nil
 | cons h _ ih => exact .cons (h.mono hm) ih
structure ARel (P : Program) (F : Nat → Option Obj) (m : Loc) (s : St) (a : Act) : Prop where
 tm : TRel P F m s.tm s.n a.tmps
 ds : DsRel P F m s.ds a.defers
theorem ARel.mono {P : Program} {F : Nat → Option Obj} {m m' : Loc} (hm : Loc.le m m') {s : St} {a : Act} (h : ARel P F m s a) : ARel P F m' s a := ⟨h.tm.mono hm, h.ds.mono hm⟩
def FenRel (m : Loc) : Option Nat → Fence → Prop
 | none, fe => fe = Fence.wide
 | some l, fe => ∃ b z, m l = some (b, z) ∧ fe = Fence.wide.inRound b
theorem FenRel.mono {m m' : Loc} (hm : Loc.le m m') {o : Option Nat} {fe : Fence} (h : FenRel m o fe) : FenRel m' o fe := by
 cases o with
 | none => exact h
 | some l => obtain ⟨b, z, h1, h2⟩ := h; exact ⟨b, z, hm _ _ h1, h2⟩
theorem FenRel.fn {m : Loc} {o : Option Nat} {fe : Fence} (h : FenRel m o fe) (f : FuncId) : fe.fn f := by
 cases o with
 | none => cases h; trivial
 | some l => obtain ⟨_, _, _, rfl⟩ := h; trivial
theorem FenRel.depth {m : Loc} {o : Option Nat} {fe : Fence} (h : FenRel m o fe) : fe.depth = none := by
 cases o with
 | none => cases h; rfl
 | some l => obtain ⟨_, _, _, rfl⟩ := h; rfl
def Free (m : Loc) (h h' : Hp) : Prop := ∀ r, h.nx ≤ r → r < h'.nx → m r = none
def q0y (P : Program) (F : Nat → Option Obj) (f : FuncId) (args : List AV) (v : AV) : Prop :=
 ∀ (m : Loc) (w : World) (n : Nat) (cargs : Array Value), (∀ b o, Fz F m b o → w.heap[b]? = some o) → LRel P F m args cargs.toList →
  CallsIn Fence.wide n P f cargs w fun e w' => ∃ cv fz, e = .returned cv ∧ SameOut w w' ∧ w.heap.size ≤ w'.heap.size ∧ (∀ b, b < w.heap.size → w'.heap[b]? = w.heap[b]?) ∧
   (∀ b o, fz b = some o → w'.heap[b]? = some o) ∧ (∀ b o, m.fz b = some o → fz b = some o) ∧ (∀ b o, fz b = some o → m.fz b = some o ∨ w.heap.size ≤ b) ∧ VRel P F ⟨fun _ => none, fz⟩ v cv
def Calling (P : Program) (F : Nat → Option Obj) (h h' : Hp) (v : AV) (f : FuncId) (args : List AV) : Prop :=
 ∀ m w n cargs, HRel P F m h w → LRel P F m args cargs.toList → Free m h h' → CallsIn Fence.wide n P f cargs w fun e w' => ∃ cv m', e = .returned cv ∧ Step P F m h h' w w' m' ∧ VRel P F m' v cv
structure POk (P : Program) (F : Nat → Option Obj) (gl : Nat → AV) (eqT : Knob) : Prop where
 eq : EqOk P eqT
 glob : ∀ (m : Loc) g, VRel P F m (gl g) (.pointer (some ⟨g, 0, none⟩))
 names : ∀ (f : FuncId) (fn : Func), P.funcs[f]? = some fn → fn.body.isSome = true → (fn.name == "runtime.NumGoroutine") = false
 mixed : P.follows .mixedOrders = true
 orc : ∀ f args v, eqT.orc f args = some v → q0y P F f args v
 ext : ∀ f args v, eqT.ext f args = some v → ∀ (m : Loc) (w : World) (cargs : Array Value), LRel P F m args cargs.toList → ∃ cv w', (callFunc f cargs).run P w = .ok (.value cv) w' ∧ w'.heap = w.heap ∧ SameOut w w' ∧ VRel P F m v cv
 prim : ∀ f args h v h', eqT.prim f args h = some (v, h') → HpLe h h' ∧ Calling P F h h' v f args
section
variable {P : Program} {F : Nat → Option Obj} {gl : Nat → AV} {eqT : Knob} {m : Loc}
theorem q0x (hP : POk P F gl eqT) {s : St} {a : Act} (h : TRel P F m s.tm s.n a.tmps) (x : Operand) : VRel P F m (s.ev (Ctx.of P gl eqT) x) (a.eval x) := by
  cases x with
  | tmp t =>
    show VRel P F m (tget s.tm t) (a.tmps.getD t Go.undef)
    by_cases ht : t < s.n
    · exact h.at' t ht
    · have ht := Nat.le_of_not_lt ht
      rw [h.out t ht]
      have : a.tmps.getD t Go.undef = .tuple #[] := by
        rw [Array.getD_eq_getD_getElem?, Array.getElem?_eq_none (by rw [h.size]; exact ht)]; rfl
      rw [this]
      exact LRel.tup .nil
  | const v => exact ofV_rel P F m v
  | global g => exact hP.glob m g
  | func f => exact .fn (.func f) rfl (fun i x y h _ => by simp at h) rfl (fun i x y h _ => by simp at h)
theorem allA_rel {C : Ctx} {s : St} {ρ : Operand → Value} (hev : ∀ x, VRel P F m (s.ev C x) (ρ x)) : ∀ (l : List Operand), LRel P F m (allA C s l) (l.map ρ)
 | [] => .nil
 | x :: l => .cons (hev x) (allA_rel hev l)
theorem q7R {C : Ctx} {s : St} {ρ : Operand → Value} (hev : ∀ x, VRel P F m (s.ev C x) (ρ x)) (a : Array Operand) : LRel P F m (allA C s a.toList) (a.map ρ).toList := by
 rw [Array.toList_map]; exact allA_rel hev _
theorem q4K (tm : Tr AV) (d : Nat) (v : AV) (t : Nat) : tget (tm.set d v) t = if d = t then v else tget tm t := by
 unfold tget; rw [Tr.get_set]
 by_cases h : d = t
 ·rw [if_pos h, if_pos h]
 ·rw [if_neg h, if_neg h]
theorem TRel.put {tm : Tr AV} {n : Nat} {t : Array Value} (h : TRel P F m tm n t) {d : Nat} {v : AV} {cv : Value} (hd : d < n) (hv : VRel P F m v cv) : TRel P F m (tm.set d v) n (t.setIfInBounds d cv) := by
 refine ⟨by simp [h.size], fun i hi => ?_, fun i hi => ?_⟩
 ·rw [q4K]
  by_cases hdi : d = i
  ·subst hdi
   rw [if_pos rfl, Array.getD_eq_getD_getElem?, Array.getElem?_setIfInBounds_self_of_lt (by rw [h.size]; exact hi)]
   exact hv
  ·rw [if_neg hdi, Array.getD_eq_getD_getElem?, Array.getElem?_setIfInBounds_ne hdi, ← Array.getD_eq_getD_getElem?]
   exact h.at' i hi
 ·rw [q4K, if_neg (by omega)]; exact h.out i hi
theorem z1k {s s' : St} {a : Act} {d : Option Nat} {v : AV} {cv : Value} {h : Hp} (hp : putD s d v h = some s') (ha : ARel P F m s a) (hv : VRel P F m v cv) : ARel P F m s' (a.put d cv) ∧ s'.h = h ∧ s'.rd = s.rd ∧ s'.n = s.n ∧ s'.ds = s.ds := by
 unfold putD at hp
 split at hp
 ·cases hp; exact ⟨⟨ha.tm, ha.ds⟩, rfl, rfl, rfl, rfl⟩
 ·obtain ⟨hd, rfl⟩ := q0l hp
  exact ⟨⟨ha.tm.put (Nat.le_of_ble_eq_true hd) hv, ha.ds⟩, rfl, rfl, rfl, rfl⟩
theorem q4f {ops : Array Oper} {s : St} {a : Act} (ha : ARel P F m s a) {o : Oper} {b : Bool} (h : q5q ops.toList s o = some b) : Region.wanted o (yielded ops a.tmps) = b := by
  unfold q5q at h
  unfold Region.wanted
  split at h
  · rename_i hg; rw [hg]; cases h; rfl
  · rename_i j want hg
    rw [hg]
    dsimp only
    unfold yielded
    split at h
    · rename_i p hp
      have hp' : ops[j]? = some p := by simpa using hp
      rw [hp']
      split at h
      · rename_i d hd
        simp only [Option.bind_some, hd]
        have hv : a.tmps[d]? = none ∨ ∃ cv, a.tmps[d]? = some cv ∧ VRel P F m (tget s.tm d) cv := by
          cases hx : a.tmps[d]? with
          | none => exact .inl rfl
          | some cv =>
            refine .inr ⟨cv, rfl, ?_⟩
            have hlt : d < a.tmps.size := (Array.getElem?_eq_some_iff.1 hx).1
            have := ha.tm.at' d (by rw [← ha.tm.size]; exact hlt)
            rw [Array.getD_eq_getD_getElem?, hx] at this
            exact this
        split at h
        · rename_i t ht
          cases h
          rcases hv with hv | ⟨cv, hv, hr⟩
          · exfalso
            have hge : s.n ≤ d := by
              rw [← ha.tm.size]
              rcases Nat.lt_or_ge d a.tmps.size with h' | h'
              · rw [Array.getElem?_eq_getElem h'] at hv; cases hv
              · exact h'
            rw [ha.tm.out d hge] at ht; cases ht
          · rw [ht] at hr
            obtain rfl := hr.bool_inv
            rw [hv]; cases t <;> cases want <;> rfl
        · cases h
        · rename_i hb hu
          cases h
          rcases hv with hv | ⟨cv, hv, hr⟩
          · rw [hv]; rfl
          · rw [hv]
            cases cv with
            | bool t =>
              exfalso
              cases hx : tget s.tm d <;> rw [hx] at hr hb hu <;> first | exact hu rfl | exact hb _ rfl | (cases hr; done) | (cases hr with | raw h => cases h)
            | _ => rfl
      · rename_i hd
        cases h
        simp only [Option.bind_some, hd, Option.bind_none]
        rfl
    · rename_i hp
      cases h
      have hp' : ops[j]? = none := by simpa using hp
      rw [hp']; rfl
end
end Go.Ax
namespace Go.Ax
section
variable {P : Program} {F : Nat → Option Obj} {gl : Nat → AV} {eqT : Knob} {m : Loc}
theorem rangeA_rel {t : TypeId} {x v : AV} {cx : Value} {h h' : Hp} {w : World} (ha : rangeA (Ctx.of P gl eqT) t x h = some (v, h')) (hx : VRel P F m x cx) (hr : HRel P F m h w) (hn : ∀ r, h.nx ≤ r → r < h'.nx → m r = none) :
  ∃ cv w' m', (Instr.range t cx).run P w = .ok cv w' ∧ Step P F m h h' w w' m' ∧ VRel P F m' v cv := by
 unfold rangeA at ha; cases ha
theorem nextM_rel {x v : AV} {cx : Value} {ty : TypeId} {h h' : Hp} {w : World} (ha : nextM x h = some (v, h')) (hx : VRel P F m x cx) (hr : HRel P F m h w) :
  ∃ cv w', (Instr.next cx false ty).run P w = .ok cv w' ∧ Step P F m h h' w w' m ∧ VRel P F m v cv := by
 unfold nextM at ha; cases ha
theorem nextA_rel {x v : AV} {cx : Value} {ty : TypeId} {h h' : Hp} {w : World} (ha : nextA x h = some (v, h')) (hx : VRel P F m x cx) (hr : HRel P F m h w) :
  ∃ cv w', (Instr.next cx true ty).run P w = .ok cv w' ∧ Step P F m h h' w w' m ∧ VRel P F m v cv := by
 unfold nextA at ha; cases ha
theorem findB_rel {n : Nat} : ∀ (es : List (AV × AV × Nat)) (ces : List MapEntry) (k v : AV), findB n es = some (k, v) → es.length = ces.length → (∀ (i : Nat) (x : AV × AV × Nat) (y : MapEntry), es[i]? = some x → ces[i]? = some y → ERel P F m x y) →
    ∃ e, ces.find? (fun e => e.born == n) = some e ∧ VRel P F m k e.key ∧ VRel P F m v e.val
  | [], ces, k, v, h, _, _ => by cases h
  | (q, u, b) :: es, ces, k, v, h, hl, hc => by
    cases ces with
    | nil => cases hl
    | cons e ces =>
    have he := hc 0 _ _ rfl rfl
    have hb : b = e.born := he.born
    unfold findB at h
    rw [List.find?_cons]
    by_cases hbn : b = n
    · subst hbn
      rw [Nat.beq_refl, cond_true] at h
      cases h
      rw [show (e.born == b) = true by rw [← hb]; simp]
      exact ⟨e, rfl, he.key, he.val⟩
    · have hne : Nat.beq b n = false := by
        cases hx : Nat.beq b n with
        | false => rfl
        | true => exact absurd (Nat.eq_of_beq_eq_true hx) hbn
      rw [hne, cond_false] at h
      rw [show (e.born == n) = false by rw [← hb]; simp [hbn]]
      exact findB_rel es ces k v h (by simpa using hl) (fun i x y hx hy => hc (i + 1) x y (by simpa using hx) (by simpa using hy))
theorem entryM_rel {x v : AV} {cx : Value} {h : Hp} {w : World} (ha : entryM x h = some v) (hx : VRel P F m x cx) (hr : HRel P F m h w) : ∃ cv, (Instr.entry cx).run P w = .ok cv w ∧ VRel P F m v cv := by
 unfold entryM at ha
 split at ha
 case h_2 => cases ha
 rename_i r
 split at ha
 case h_2 => cases ha
 rename_i q since seen last hg
 split at ha
 case h_2 => cases ha
 rename_i es clock b0 hgq hlast
 have hcl : clock = last := by
  cases hb : Nat.beq clock last with
  | true => exact Nat.eq_of_beq_eq_true hb
  | false => rw [hb] at ha; cases ha
 rw [hcl, Nat.beq_refl, cond_true] at ha
 cases hf : findB b0 es with
 | none => rw [hf] at ha; cases ha
 | some ku =>
 obtain ⟨k, u⟩ := ku
 rw [hf] at ha
 cases ha
 obtain ⟨bl, z, hm, rfl⟩ := hx.ptr_inv
 obtain ⟨b, y, hmq, h1⟩ := hr.obj r _ bl z hg hm
 obtain ⟨ces, k1, k2, k3⟩ := hr.obj q _ b y hgq hmq
 obtain ⟨e, g1, g2, g3⟩ := findB_rel es ces.toList k u hf (by simpa using k2) (fun i x y hx hy => k3 i x y hx (by simpa using hy))
 have g1' : ces.find? (fun e => e.born == b0) = some e := by rw [← Array.find?_toList]; exact g1
 have hb : seen.toArray.back? = some b0 := by rw [List.back?_toArray]; exact hlast
 refine ⟨.tuple #[e.key, e.val], ?_, LRel.tup (.cons g2 (.cons g3 .nil))⟩
 simp only [Instr.entry, Sem.run_bind, q9E h1 rfl, Result.andThen_ok, hb, q9E k1 rfl, hcl]
 simp [g1']
theorem mapEntryA_rel (hE : EqOk P eqT) {t : TypeId} {x k v : AV} {cx ck : Value} {h h' : Hp} {w : World} (hp : q5B (Ctx.of P gl eqT) t x k h = some (v, h')) (hx : VRel P F m x cx) (hk : VRel P F m k ck) (hr : HRel P F m h w) :
  ∃ cv w', (Instr.mapEntry t cx ck).run P w = .ok cv w' ∧ Step P F m h h' w w' m ∧ VRel P F m v cv := by
 unfold q5B at hp; cases hp
theorem entryStoreA_rel {t : TypeId} {x st v : AV} {cx cst cv : Value} {h h' : Hp} {w : World} (hp : q3m x st v h = some h') (hx : VRel P F m x cx) (hst : VRel P F m st cst) (hv : VRel P F m v cv) (hr : HRel P F m h w) :
  ∃ w', (Instr.entryStore t cx cst cv).run P w = .ok () w' ∧ Step P F m h h' w w' m := by
 unfold q3m at hp; cases hp
theorem bytesOf_rel : ∀ (new : List AV) (l : List Nat) (cs : List Value), bytesOf new = some l → LRel P F m new cs → cs = l.map (fun (n : Nat) => Value.int .u8 (.ofNat n)) ∧ ∀ n ∈ l, n < 256
  | [], l, cs, h, hc => by cases h; cases hc.cases_nil; exact ⟨rfl, nofun⟩
  | v :: new, l, cs, h, hc => by
    obtain ⟨c, cs, rfl, h1, h2⟩ := hc.cases_cons
    unfold bytesOf at h
    split at h
    · rename_i h0; cases h0
    · rename_i n l0 h0
      cases h0
      obtain ⟨hn, h⟩ := q3A h
      split at h
      case h_2 => cases h
      rename_i k hk
      cases h
      obtain ⟨g1, g2⟩ := bytesOf_rel new k cs hk h2
      obtain rfl := h1.int_inv
      refine ⟨by rw [g1]; rfl, fun q hq => ?_⟩
      cases hq with
      | head => exact Nat.le_of_ble_eq_true hn
      | tail _ hq => exact g2 q hq
    · cases h
theorem convS_rel {a b : TypeId} {x v : AV} {cx : Value} {h : Hp} {w : World} (hi : q7L x = true) (hp : isPtrA x = false) (hc : convS (Ctx.of P gl eqT) a b x h = some v) (hx : VRel P F m x cx) (hr : HRel P F m h w) : ∃ cv, (convert a b cx).run P w = .ok cv w ∧ VRel P F m v cv := by
 unfold convS at hc; cases hc
section le
variable {C : Ctx} {h h' : Hp}
theorem rangeA_le {t : TypeId} {x v : AV} (ha : rangeA C t x h = some (v, h')) : HpLe h h' := by
 unfold rangeA at ha; cases ha
theorem nextM_le {x v : AV} (ha : nextM x h = some (v, h')) : HpLe h h' := by
 unfold nextM at ha; cases ha
theorem nextA_le {x v : AV} (ha : nextA x h = some (v, h')) : HpLe h h' := by
 unfold nextA at ha; cases ha
theorem mapEntryA_le {t : TypeId} {x k v : AV} (ha : q5B C t x k h = some (v, h')) : HpLe h h' := by
 unfold q5B at ha; cases ha
theorem entryStoreA_le {x st v : AV} (ha : q3m x st v h = some h') : HpLe h h' := by
 unfold q3m at ha; cases ha
end le
end
end Go.Ax
namespace Go.Ax
section
variable {P : Program} {F : Nat → Option Obj} {gl : Nat → AV} {eqT : Knob} {m : Loc}
theorem cellsOf_ti2 {t : TypeId} {x : TI} (h : (Ctx.of P gl eqT).ti t = some x) : P.cellsOf t = x.size := by
 obtain ⟨i, hi, e, _⟩ := q6q h
 simp [Program.cellsOf, hi, e]
theorem convP_rel {a b : TypeId} {x v : AV} {cx : Value} {h : Hp} {w : World} (hc : convP (Ctx.of P gl eqT) a b x h = some v) (hx : VRel P F m x cx) (hr : HRel P F m h w) : ∃ cv, (convert a b cx).run P w = .ok cv w ∧ VRel P F m v cv := by
 unfold convP at hc; cases hc
theorem convB_rel {a b : TypeId} {x v : AV} {cx : Value} {h : Hp} {w : World} (hi : q7L x = true) (hc : convB (Ctx.of P gl eqT) a b x h = some v) (hx : VRel P F m x cx) (hr : HRel P F m h w) : ∃ cv, (convert a b cx).run P w = .ok cv w ∧ VRel P F m v cv := by
 unfold convB at hc; cases hc
theorem clearA_rel {ts : Array TypeId} {t ty : TypeId} {x : AV} {cx : Value} {args : Array Value} {h h' : Hp} {w : World} (t0 : ts[0]? = some t) (a0 : args[0]? = some cx) (hc : clearA (Ctx.of P gl eqT) t x h = some h') (hx : VRel P F m x cx) (hr : HRel P F m h w) :
  ∃ w', (Builtin.clear_ ts ty args).run P w = .ok (.tuple #[]) w' ∧ Step P F m h h' w w' m := by
 unfold clearA at hc; cases hc
theorem clearA_le {C : Ctx} {t : TypeId} {x : AV} {h h' : Hp} (hc : clearA C t x h = some h') : HpLe h h' := by
 unfold clearA at hc; cases hc
end
end Go.Ax
namespace Go.Ax
section
variable {P : Program} {F : Nat → Option Obj} {gl : Nat → AV} {eqT : Knob} {m : Loc}
def Does (P : Program) (F : Nat → Option Obj) (m : Loc) (h h' : Hp) (w : World) (v : AV) (q : Sem Next) : Prop :=
 ∃ x cv w' m', q.run P w = .ok x w' ∧ (x = Next.value cv ∨ (x = Next.skip ∧ cv = Go.undef)) ∧ Step P F m h h' w w' m' ∧ VRel P F m' v cv
theorem Does.ofV {h h' : Hp} {w : World} {v : AV} {q : Sem Value} (hd : ∃ cv w' m', q.run P w = .ok cv w' ∧ Step P F m h h' w w' m' ∧ VRel P F m' v cv) :
  Does P F m h h' w v (do pure (Next.value (← q))) := by
 obtain ⟨cv, w', m', h1, h2, h3⟩ := hd
 exact ⟨.value cv, cv, w', m', by rw [Sem.run_bind, h1]; rfl, .inl rfl, h2, h3⟩
theorem Does.pureV {h : Hp} {w : World} {v : AV} {q : Sem Value} (hr : HRel P F m h w) (hd : ∃ cv, q.run P w = .ok cv w ∧ VRel P F m v cv) :
  Does P F m h h w v (do pure (Next.value (← q))) := by
 obtain ⟨cv, h1, h3⟩ := hd
 exact .ofV ⟨cv, w, m, h1, Step.refl hr rfl (SameOut.refl w), h3⟩
theorem Does.ofU {h h' : Hp} {w : World} {q : Sem Unit} (hd : ∃ w', q.run P w = .ok () w' ∧ Step P F m h h' w w' m) :
  Does P F m h h' w .undef (do q; pure Next.skip) := by
 obtain ⟨w', h1, h2⟩ := hd
 exact ⟨.skip, Go.undef, w', m, by rw [Sem.run_bind, h1]; rfl, .inr ⟨rfl, rfl⟩, h2, .undef _⟩
theorem Does.wp {h h' : Hp} {w : World} {v : AV} {o : Oper} {a : Act} {fe : Fence} {rd : Option Nat} {n : Nat} {K : Act → World → Prop} {Q : Exit → Act → World → Prop}
  (hd : Does P F m h h' w v (execOp a.eval o)) (hnd : ∀ c, o.op ≠ .defer c) (hf : FenRel m rd fe)
  (hK : ∀ m' cv w', Step P F m h h' w w' m' → VRel P F m' v cv → K (a.put o.dst cv) w') : o.wpIn fe n P a w K Q := by
 obtain ⟨x, cv, w', m', h1, h2, h3, h4⟩ := hd
 refine ⟨fun f _ => hf.fn f, ?_⟩
 rw [Oper.semAt_eq _ _ _ hnd, h1]
 rcases h2 with rfl | ⟨rfl, rfl⟩
 ·exact hK _ _ _ h3 h4
 ·exact hK _ _ _ h3 h4
theorem q0B {α : Type} {f : α → OpR} {x : Option α} {r : OpR} (h : ov f x = some r) : ∃ y, x = some y ∧ r = f y := by
 cases x with
 | none => cases h
 | some y => cases h; exact ⟨y, rfl, rfl⟩
theorem min_rel {k : IntKind} {a b : Int} {w : World} {ts : Array TypeId} {ty : TypeId} {args : Array Value} (ha : args.toList = [.int k a, .int k b]) :
  (Builtin.min_ ts ty args).run P w = .ok (.int k (bif ltI b a then b else a)) w := by
 simp only [Builtin.min_, ha, List.foldlM, Builtin.min2, q5z]
 by_cases h : b < a <;> simp [h]
theorem max_rel {k : IntKind} {a b : Int} {w : World} {ts : Array TypeId} {ty : TypeId} {args : Array Value} (ha : args.toList = [.int k a, .int k b]) :
  (Builtin.max_ ts ty args).run P w = .ok (.int k (bif ltI a b then b else a)) w := by
 simp only [Builtin.max_, ha, List.foldlM, Builtin.max2, q5z]
 by_cases h : a < b <;> simp [h]
theorem min3_rel {k : IntKind} {a b c : Int} {w : World} {ts : Array TypeId} {ty : TypeId} {args : Array Value} (ha : args.toList = [.int k a, .int k b, .int k c]) :
  (Builtin.min_ ts ty args).run P w = .ok (.int k (bif ltI c (bif ltI b a then b else a) then c else (bif ltI b a then b else a))) w := by
 simp only [Builtin.min_, ha, List.foldlM, Builtin.min2, q5z]
 by_cases h : b < a
 ·by_cases h2 : c < b <;> simp [h, h2]
 ·by_cases h2 : c < a <;> simp [h, h2]
theorem builtinA_rel (hE : EqOk P eqT) {b : Builtin} {ts : Array TypeId} {ty : TypeId} {cn : Array Bool} {args : List AV} {cargs : Array Value} {h : Hp} {w : World} {r : OpR}
    (hb : q2R (Ctx.of P gl eqT) b ts.toList args h = some r) (hx : LRel P F m args cargs.toList) (hr : HRel P F m h w) (hn : ∀ h', (∃ v, r = .val v h') → Free m h h') :
    ∃ v h', r = .val v h' ∧ Does P F m h h' w v (builtin b ts ty cn cargs) := by
  have at' : ∀ {l : List Value} {a : Array Value}, a.toList = l → ∀ i, a[i]? = l[i]? := fun e i => by rw [← e]; exact Array.getElem?_toList.symm
  unfold q2R at hb
  split at hb
  · rename_i t tl x xl ht
    obtain ⟨cx, cxl, e1, e2, e3⟩ := hx.cases_cons
    have ha := at' e1 0
    have ht0 : ts[0]? = some t := by have := congrArg (·[0]?) ht; simpa using this
    split at hb
    · rename_i v hv
      cases hb
      exact ⟨_, _, rfl, Does.pureV hr (lenOfA_rel ht0 ha hv e2 hr)⟩
    · cases hb
  · rename_i st xt tl s x xl ht
    obtain ⟨cs, csl, e1, e2, e3⟩ := hx.cases_cons
    obtain ⟨cx, cxl, e4, e5, e6⟩ := e3.cases_cons
    subst e4
    have ht0 : ts[0]? = some st := by have := congrArg (·[0]?) ht; simpa using this
    have ht1 : ts[1]? = some xt := by have := congrArg (·[1]?) ht; simpa using this
    split at hb
    · rename_i v h' hv
      cases hb
      exact ⟨_, _, rfl, Does.ofV (appendA_rel ht0 ht1 (at' e1 0) (at' e1 1) hv e2 e5 hr (hn h' ⟨_, rfl⟩))⟩
    · cases hb
  · rename_i dt tl d x xl ht
    obtain ⟨cd, csl, e1, e2, e3⟩ := hx.cases_cons
    obtain ⟨cx, cxl, e4, e5, e6⟩ := e3.cases_cons
    subst e4
    have ht0 : ts[0]? = some dt := by have := congrArg (·[0]?) ht; simpa using this
    split at hb
    · rename_i v h' hv
      cases hb
      obtain ⟨cv, w', g1, g2, g3⟩ := copyA_rel (ty := ty) ht0 (at' e1 0) (at' e1 1) hv e2 e5 hr
      exact ⟨_, _, rfl, Does.ofV ⟨cv, w', m, g1, g2, g3⟩⟩
    · cases hb
  · -- delete
    rename_i t tl x k ht
    obtain ⟨cx, cxl, e1, e2, e3⟩ := hx.cases_cons
    obtain ⟨ck, csl, e4, e5, e6⟩ := e3.cases_cons
    subst e4
    cases e6.cases_nil
    have ht0 : ts[0]? = some t := by have := congrArg (·[0]?) ht; simpa using this
    split at hb
    · rename_i h' hv
      cases hb
      obtain ⟨w', g1, g2⟩ := mapDel_rel (rt := ty) hE hv ht0 e2 e5 hr
      obtain rfl := Array.ext' (ys := #[cx, ck]) e1
      exact ⟨_, _, rfl, Does.ofV ⟨.tuple #[], w', m, g1, g2, LRel.tup .nil⟩⟩
    · cases hb
  · -- complex
    rename_i a b
    cases hb
    obtain ⟨cx, cxl, e1, e2, e3⟩ := hx.cases_cons
    obtain ⟨cy, csl, e4, e5, e6⟩ := e3.cases_cons
    subst e4
    cases e6.cases_nil
    obtain rfl := e2.raw_inv
    obtain rfl := e5.raw_inv
    obtain rfl := Array.ext' (ys := #[Value.float .f64 a, Value.float .f64 b]) e1
    exact ⟨_, _, rfl, Does.pureV hr ⟨.complex .f64 a b, rfl, .raw rfl⟩⟩
  · -- real
    rename_i k a b
    cases hb
    obtain ⟨cx, cxl, e1, e2, e3⟩ := hx.cases_cons
    cases e3.cases_nil
    obtain rfl := e2.raw_inv
    obtain rfl := Array.ext' (ys := #[Value.complex k a b]) e1
    exact ⟨_, _, rfl, Does.pureV hr ⟨.float k a, rfl, .raw rfl⟩⟩
  · -- imag
    rename_i k a b
    cases hb
    obtain ⟨cx, cxl, e1, e2, e3⟩ := hx.cases_cons
    cases e3.cases_nil
    obtain rfl := e2.raw_inv
    obtain rfl := Array.ext' (ys := #[Value.complex k a b]) e1
    exact ⟨_, _, rfl, Does.pureV hr ⟨.float k b, rfl, .raw rfl⟩⟩
  · -- clear
    rename_i t tl x xl ht
    obtain ⟨cx, cxl, e1, e2, e3⟩ := hx.cases_cons
    have ht0 : ts[0]? = some t := by have := congrArg (·[0]?) ht; simpa using this
    split at hb
    · rename_i h' hv
      cases hb
      obtain ⟨w', g1, g2⟩ := clearA_rel (ty := ty) ht0 (at' e1 0) hv e2 hr
      exact ⟨_, _, rfl, Does.ofV ⟨.tuple #[], w', m, g1, g2, LRel.tup .nil⟩⟩
    · cases hb
  · -- unsafe.SliceData of nil
    cases hb
    obtain ⟨cx, cxl, e1, e2, e3⟩ := hx.cases_cons
    cases e3.cases_nil
    obtain rfl := e2.nilsl_inv
    obtain rfl : cargs = #[.slice none 0 0] := Array.ext' e1
    exact ⟨_, _, rfl, Does.pureV hr ⟨.pointer none, rfl, .nilptr⟩⟩
  · -- unsafe.SliceData
    rename_i r o len cap es ex
    obtain ⟨cx, cxl, e1, e2, e3⟩ := hx.cases_cons
    cases e3.cases_nil
    obtain ⟨b, z, ccap, hm, rfl, h1, h2, h3, h4⟩ := e2.sl_inv
    obtain rfl := Array.ext' (ys := #[Value.slice (some ⟨b, o, none⟩) len ccap]) e1
    cases hz : Nat.beq cap 0 with
    | true => rw [hz] at hb; cases hb
    | false =>
      rw [hz] at hb; cases hb
      have hne : ccap ≠ 0 := fun e => by
        have : cap = 0 := by omega
        rw [this] at hz; cases hz
      exact ⟨_, _, rfl, Does.pureV hr ⟨.pointer (some ⟨b, o, none⟩), by show Sem.run P (ite (ccap ≠ 0) _ _) w = _; rw [if_pos hne]; rfl, .ptr hm⟩⟩
  · -- unsafe.String of nil
    rename_i t tu ht
    obtain ⟨cs, csl, e1, e2, e3⟩ := hx.cases_cons
    obtain ⟨cx, cxl, e4, e5, e6⟩ := e3.cases_cons
    subst e4
    cases e6.cases_nil
    obtain rfl := e2.nilptr_inv
    obtain rfl := e5.int_inv
    obtain rfl := Array.ext' (ys := #[Value.pointer none, Value.int .i64 0]) e1
    obtain rfl := Array.ext' (ys := #[t, tu]) ht
    split at hb
    case h_2 => cases hb
    cases hb
    exact ⟨_, _, rfl, Does.pureV hr ⟨.string .empty, Lib.run_unsafeString_none w _ _ _ none, VRel.str ByteArray.empty⟩⟩
  · -- unsafe.String
    rename_i t tu r n ht
    obtain ⟨cs, csl, e1, e2, e3⟩ := hx.cases_cons
    obtain ⟨cx, cxl, e4, e5, e6⟩ := e3.cases_cons
    subst e4
    cases e6.cases_nil
    obtain ⟨b, z, hm, rfl⟩ := e2.ptr_inv
    obtain rfl := e5.int_inv
    obtain rfl := Array.ext' (ys := #[Value.pointer (some ⟨b, 0, none⟩), Value.int .i64 (.ofNat n)]) e1
    obtain rfl := Array.ext' (ys := #[t, tu]) ht
    split at hb
    case h_2 => cases hb
    rename_i u size isAgg zero zeroOk bytes comparable zv e cells hti hg
    have hu := q1q hti
    dsimp only at hu
    split at hb
    case h_2 => cases hb
    rename_i y l hy hsub
    split at hb
    case h_2 => cases hb
    rename_i str hstr
    obtain ⟨hc, he⟩ := q0l hb
    obtain ⟨c1, hc⟩ := q0p hc
    obtain ⟨c2, c3⟩ := q0p hc
    obtain rfl := Nat.eq_of_beq_eq_true c1
    have c2 := Nat.eq_of_beq_eq_true c2
    have c3 := Nat.le_of_ble_eq_true c3
    obtain ⟨hle, rfl⟩ := sub_some hsub
    have hle : 0 + n ≤ cells.length := hle
    obtain ⟨arr, g1, g2, g3, g4⟩ := hr.obj r _ b z hg hm
    have hco := cellsOf_ti2 hy
    have hL : LRel P F m ((cells.drop 0).take n) (arr.toList.take n) := by
      rw [List.drop_zero]
      refine ⟨by simp; omega, fun i x y hx hy => ?_⟩
      rw [List.getElem?_take] at hx hy
      split at hx
      · rename_i hi; rw [if_pos hi] at hy; exact g4 i x y hx (by simpa using hy)
      · cases hx
    obtain ⟨k1, k2⟩ := bytesOf_rel _ str _ hstr hL
    have hslen : str.length = n := by
      have := congrArg List.length k1
      rw [List.length_take, List.length_map, Array.length_toList] at this; omega
    cases hz : Nat.beq n 0 with
    | true =>
      rw [hz] at he
      obtain rfl := Nat.eq_of_beq_eq_true hz
      obtain rfl : str = [] := by cases str with | nil => rfl | cons _ _ => cases hslen
      subst he
      exact ⟨_, _, rfl, Does.pureV hr ⟨.string .empty, Lib.run_unsafeString_none w _ _ _ _, VRel.str ByteArray.empty⟩⟩
    | false =>
      rw [hz, cond_false] at he
      subst he
      have hne : n ≠ 0 := fun e => by rw [e] at hz; cases hz
      have hrun := Lib.run_unsafeString_row (P := P) w t tu ty e hu (by rw [hco]; exact c2) b arr.size (by simp [World.shape?, g1]) (str.map fun n => n.toUInt8) (by cases str with | nil => exact absurd hslen.symm hne | cons _ _ => exact nofun) (by rw [List.length_map]; omega) (by rw [List.length_map]; omega) (fun j x hj => by
        rw [List.getElem?_map] at hj
        cases hq : str[j]? with
        | none => rw [hq] at hj; cases hj
        | some q =>
          rw [hq] at hj; cases hj
          have hq256 := k2 q (List.mem_of_getElem? hq)
          rw [q2H, Nat.zero_add, q9I g1]
          have h5 : (arr.toList.take n)[j]? = some (.int .u8 (.ofNat q)) := by rw [k1, List.getElem?_map, hq]; rfl
          rw [List.getElem?_take] at h5
          split at h5
          · have e8 : (q.toUInt8).toNat = q := by
              show (UInt8.ofNat q).toNat = q
              simp; omega
            have h6 : arr[j]? = some (.int .u8 (.ofNat q)) := by simpa using h5
            rw [h6]
            show some (Value.int .u8 (.ofNat q)) = some (Value.int .u8 (Int.ofNat (q.toUInt8).toNat))
            rw [e8]
          · cases h5)
      rw [List.length_map, hslen] at hrun
      have hstr' : VRel P F m (.str str) (.string ⟨(str.map fun n => n.toUInt8).toArray⟩) := by
        have h6 : ((⟨(str.map fun n => n.toUInt8).toArray⟩ : ByteArray).data.toList.map UInt8.toNat) = str := by
          show List.map UInt8.toNat (str.map fun n => n.toUInt8) = str
          rw [List.map_map]
          have hb' : ∀ l : List Nat, (∀ n ∈ l, n < 256) → l.map (UInt8.toNat ∘ fun n => n.toUInt8) = l := fun l hl => by
            induction l with
            | nil => rfl
            | cons n l ih =>
              rw [List.map_cons, ih fun q hq => hl q (List.mem_cons_of_mem _ hq)]
              congr 1
              have := hl n (List.mem_cons_self ..)
              simp; omega
          exact hb' str k2
        have := VRel.str (P := P) (F := F) (m := m) (⟨(str.map fun n => n.toUInt8).toArray⟩ : ByteArray)
        rw [h6] at this; exact this
      have hfr : w.freeze ⟨b, 0, none⟩ n = { w with heap := w.heap.modify b fun
          | .cells c elem (lo, hi) => .cells c elem (if lo == hi then (0, 0 + n) else (min lo 0, max hi (0 + n)))
          | o => o } := by
        unfold World.freeze; rw [if_neg hne]; rfl
      have hat : (w.freeze ⟨b, 0, none⟩ n).heap[b]? = some (.cells arr e (0, 0 + n)) := by
        rw [hfr]
        show (w.heap.modify b _)[b]? = _
        rw [Array.getElem?_modify, if_pos rfl, g1]
        rfl
      have hot : ∀ c, c ≠ b → (w.freeze ⟨b, 0, none⟩ n).heap[c]? = w.heap[c]? := fun c hc => by
        rw [hfr]
        show (w.heap.modify b _)[c]? = _
        rw [Array.getElem?_modify, if_neg (Ne.symm hc)]
      have hsz : (w.freeze ⟨b, 0, none⟩ n).heap.size = w.heap.size := by
        rw [hfr]; exact Array.size_modify
      have hso : SameOut w (w.freeze ⟨b, 0, none⟩ n) := by rw [hfr]; exact ⟨rfl, rfl, rfl⟩
      exact ⟨_, _, rfl, Does.ofV ⟨_, w.freeze ⟨b, 0, none⟩ n, m, hrun, Step.put hr hg rfl hm hat hot hsz hso trivial, hstr'⟩⟩
  · rename_i k a j b i c
    obtain ⟨hk, he⟩ := q0l hb
    obtain ⟨hk, hk2⟩ := q0p hk
    obtain rfl := q6n hk
    obtain rfl := q6n hk2
    obtain ⟨cs, csl, e1, e2, e3⟩ := hx.cases_cons
    obtain ⟨cx, cxl, e4, e5, e6⟩ := e3.cases_cons
    subst e4
    obtain ⟨cy, cyl, e7, e8, e9⟩ := e6.cases_cons
    subst e7
    cases e9.cases_nil
    obtain rfl := e2.int_inv
    obtain rfl := e5.int_inv
    obtain rfl := e8.int_inv
    subst he
    exact ⟨_, _, rfl, Does.pureV hr ⟨_, min3_rel e1, .int _ _⟩⟩
  · rename_i k a j b
    obtain ⟨hk, he⟩ := q0l hb
    obtain rfl := q6n hk
    obtain ⟨cs, csl, e1, e2, e3⟩ := hx.cases_cons
    obtain ⟨cx, cxl, e4, e5, e6⟩ := e3.cases_cons
    subst e4
    cases e6.cases_nil
    obtain rfl := e2.int_inv
    obtain rfl := e5.int_inv
    subst he
    exact ⟨_, _, rfl, Does.pureV hr ⟨_, min_rel e1, .int _ _⟩⟩
  · rename_i k a j b
    obtain ⟨hk, he⟩ := q0l hb
    obtain rfl := q6n hk
    obtain ⟨cs, csl, e1, e2, e3⟩ := hx.cases_cons
    obtain ⟨cx, cxl, e4, e5, e6⟩ := e3.cases_cons
    subst e4
    cases e6.cases_nil
    obtain rfl := e2.int_inv
    obtain rfl := e5.int_inv
    subst he
    exact ⟨_, _, rfl, Does.pureV hr ⟨_, max_rel e1, .int _ _⟩⟩
  · cases hb
theorem builtinA_val {C : Ctx} {b : Builtin} {ts : List TypeId} {args : List AV} {h : Hp} {r : OpR} (ho : q2R C b ts args h = some r) : ∃ v h', r = .val v h' := by
 unfold q2R at ho
 split at ho
 ·split at ho <;> cases ho; exact ⟨_, _, rfl⟩
 ·split at ho <;> cases ho; exact ⟨_, _, rfl⟩
 ·split at ho <;> cases ho; exact ⟨_, _, rfl⟩
 ·split at ho <;> cases ho; exact ⟨_, _, rfl⟩
 ·cases ho; exact ⟨_, _, rfl⟩
 ·cases ho; exact ⟨_, _, rfl⟩
 ·cases ho; exact ⟨_, _, rfl⟩
 ·split at ho <;> cases ho; exact ⟨_, _, rfl⟩
 ·cases ho; exact ⟨_, _, rfl⟩
 ·rename_i r o len cap es ex
  cases hz : Nat.beq cap 0 with
  | true => rw [hz] at ho; cases ho
  | false => rw [hz] at ho; cases ho; exact ⟨_, _, rfl⟩
 ·split at ho <;> cases ho; exact ⟨_, _, rfl⟩
 ·split at ho
  case h_2 => cases ho
  split at ho
  case h_2 => cases ho
  split at ho
  case h_2 => cases ho
  obtain ⟨_, he⟩ := q0l ho; exact ⟨_, _, he.symm⟩
 ·obtain ⟨_, he⟩ := q0l ho; exact ⟨_, _, he.symm⟩
 ·obtain ⟨_, he⟩ := q0l ho; exact ⟨_, _, he.symm⟩
 ·obtain ⟨_, he⟩ := q0l ho; exact ⟨_, _, he.symm⟩
 ·cases ho
theorem builtinA_le {C : Ctx} {b : Builtin} {ts : List TypeId} {args : List AV} {h h' : Hp} {v : AV} (hb : q2R C b ts args h = some (.val v h')) : HpLe h h' := by
 unfold q2R at hb
 split at hb
 ·split at hb
  ·cases hb; exact .refl _
  ·cases hb
 ·split at hb
  ·rename_i hv; cases hb; exact appendA_le hv
  ·cases hb
 ·split at hb
  ·rename_i hv; cases hb; exact copyA_le hv
  ·cases hb
 ·split at hb
  ·rename_i hv; cases hb; exact mapDel_le hv
  ·cases hb
 ·cases hb; exact .refl _
 ·cases hb; exact .refl _
 ·cases hb; exact .refl _
 ·split at hb
  ·rename_i hv; cases hb; exact clearA_le hv
  ·cases hb
 ·cases hb; exact .refl _
 ·rename_i r o len cap es ex
  cases hz : Nat.beq cap 0 with
  | true => rw [hz] at hb; cases hb
  | false => rw [hz] at hb; cases hb; exact .refl _
 ·split at hb
  ·cases hb; exact .refl _
  ·cases hb
 ·rename_i t tu r n
  split at hb
  case h_2 => cases hb
  rename_i hg
  split at hb
  case h_2 => cases hb
  split at hb
  case h_2 => cases hb
  obtain ⟨_, he⟩ := q0l hb
  cases hz : Nat.beq n 0 with
  | true => rw [hz] at he; cases he; exact .refl _
  | false => rw [hz] at he; cases he; exact .put hg _
 ·obtain ⟨_, he⟩ := q0l hb; cases he; exact .refl _
 ·obtain ⟨_, he⟩ := q0l hb; cases he; exact .refl _
 ·obtain ⟨_, he⟩ := q0l hb; cases he; exact .refl _
 ·cases hb
end
end Go.Ax
namespace Go
variable {P : Program} {F : Fence} {n : Nat}
theorem step_built {fr : Frame} {cs : List Frame} {w w' : World} {d : Deferred} {b : Builtin} {ts : Array TypeId} {ty : TypeId} {k : Array Bool} {v : Value} {ds : List Deferred}
  (hm : fr.mode ≠ .run) (hd : fr.defers = d :: ds) (ht : d.target = .builtin b ts ty k) (hi : (invoke d.target d.args).run P w = .ok (.value v) w') :
  step P (lone fr cs w) = .next (lone { fr with defers := ds } cs w') := by
 obtain ⟨t, a⟩ := d
 simp only at ht
 subst ht
 refine step_lone_go ?_
 cases hmode : fr.mode with
 | run => exact absurd hmode hm
 | returning => simp [stepG, unwind, callDeferred, hmode, hd, Sem.runT_eq, hi, GStep.bare_after]
 | panicking chain => simp [stepG, unwind, callDeferred, hmode, hd, Sem.runT_eq, hi, GStep.bare_after]
def q3K (F : Fence) (n : Nat) (P : Program) (fn : Func) (tmps : Array Value) (R : Ending → World → Prop) : List Deferred → FrameMode → World → Prop
  | [], u, w => LeavesIn F n P fn tmps R [] u w
  | d :: ds, u, w => u ≠ .run ∧
      ((∃ r w', d.target = .collected r ∧ (Instr.takeDeferred r).run P w = .ok [] w' ∧ q3K F n P fn tmps R ds u w') ∨
       (∃ b ts ty k v w', d.target = .builtin b ts ty k ∧ (invoke d.target d.args).run P w = .ok (.value v) w' ∧ q3K F n P fn tmps R ds u w') ∨
       ((F.depth.isSome = true → 1 ≤ n) ∧ ∃ fv cap f args, d.target = .fn fv cap ∧ (invoke d.target d.args).run P w = .ok (.enter f args) w ∧ (∀ g, d.target.leads P w d.args = some g → F.fn g) ∧
        CallsDIn F (n - 1) P f args u w fun e u' w' => match e with
          | .returned _ => q3K F n P fn tmps R ds (settle u') w'
          | .panicked chain => q3K F n P fn tmps R ds (raised u' chain) w'
          | .outgrown => R .outgrown w'))
theorem q2S {fn : Func} {tmps : Array Value} {R : Ending → World → Prop} : ∀ (ds : List Deferred) (u : FrameMode) (w : World) (fr : Frame)
    (cs : List Frame), fr.mode = u → fr.defers = ds → fr.tmps = tmps → P.funcs[fr.fn]? = some fn → fr.kind = .normal → F.fn fr.fn → F.room (cs.length + 1 + n) → q3K F n P fn tmps R ds u w →
    ∃ e w' fr', R e w' ∧ ComesIn (Machine.fenced P F) P (lone fr cs w) (lone fr' cs w') e ∧ fr'.fn = fr.fn ∧ fr'.leaving P w' e
  | [], u, w, fr, cs, hu, hd, ht, hf, hk, hb, hroom, h => leaves_stepsIn [] u w fr cs hu hd ht hf hk hb hroom h
  | d :: ds, u, w, fr, cs, hu, hd, ht, hf, hk, hb, hroom, h => by
    obtain ⟨hrun, h⟩ := h
    have hrun' : fr.mode ≠ .run := hu ▸ hrun
    rcases h with ⟨r, w', htar, htake, hrest⟩ | ⟨b, ts, ty, k, v, w', htar, hinv, hrest⟩ | ⟨hn, fv, cap, f, args, htar, hinv, hlead, hFf, hcall⟩
    · have out := fenced_out (P := P) (w := w) hb hroom hrun' hd (fun g hg => by rw [htar] at hg; simp [Target.leads] at hg)
      obtain ⟨e', w2, fr', h1, h2, h3, h4⟩ := q2S ds u w' { fr with defers := [] ++ ds } cs hu rfl ht hf hk hb hroom hrest
      exact ⟨e', w2, fr', h1, ComesIn.of_steps (.one out (step_collected (cs := cs) hrun' hd htar htake)) h2, h3, h4⟩
    · have out := fenced_out (P := P) (w := w) hb hroom hrun' hd (fun g hg => by rw [htar] at hg; simp [Target.leads] at hg)
      obtain ⟨e', w2, fr', h1, h2, h3, h4⟩ := q2S ds u w' { fr with defers := ds } cs hu rfl ht hf hk hb hroom hrest
      exact ⟨e', w2, fr', h1, ComesIn.of_steps (.one out (step_built (cs := cs) hrun' hd htar hinv)) h2, h3, h4⟩
    · have out := fenced_out (P := P) hb hroom hrun' hd hlead
      have go := step_defer (cs := cs) hrun' hd htar hinv
      have room : F.room (({ fr with defers := ds } :: cs).length + 1 + (n - 1)) := Fence.room_enter hroom hn
      obtain ⟨e, u', w', frX, hR, hsteps, hkX, hfX, hgo⟩ := hcall { fr with defers := ds } cs hu room
      cases e with
      | outgrown => exact ⟨.outgrown, w', fr, hR, Outgrown.of_steps (.one go) hsteps, rfl, trivial⟩
      | returned v =>
        have back : (lone frX ({ { fr with defers := ds } with mode := u' } :: cs) w').fenced P F := fenced_going (n := n - 1) (hfX ▸ hFf) room hgo
        have go2 := step_going_returned (c := { { fr with defers := ds } with mode := u' }) (cs := cs) hkX hgo
        obtain ⟨e', w2, fr', h1, h2, h3, h4⟩ := q2S ds (settle u') w' { { { fr with defers := ds } with mode := u' } with mode := settle u' } cs rfl rfl ht hf hk hb hroom hR
        exact ⟨e', w2, fr', h1, ComesIn.of_steps (.head out go (StepsIn.trans hsteps (.one back go2))) h2, h3, h4⟩
      | panicked chain =>
        have back : (lone frX ({ { fr with defers := ds } with mode := u' } :: cs) w').fenced P F := fenced_going (n := n - 1) (hfX ▸ hFf) room hgo
        have go2 := step_going_panicked (c := { { fr with defers := ds } with mode := u' }) (cs := cs) hgo
        obtain ⟨e', w2, fr', h1, h2, h3, h4⟩ := q2S ds (raised u' chain) w' { { { fr with defers := ds } with mode := u' } with mode := raised u' chain } cs rfl rfl ht hf hk hb hroom hR
        exact ⟨e', w2, fr', h1, ComesIn.of_steps (.head out go (StepsIn.trans hsteps (.one back go2))) h2, h3, h4⟩
def bodyPostB (F : Fence) (n : Nat) (P : Program) (fn : Func) (R : Ending → World → Prop) : Exit → Act → World → Prop
 | .normal, a, w => q3K F n P fn a.tmps R a.defers .returning w
 | .ret, a, w => q3K F n P fn a.tmps R a.defers .returning w
 | .panic chain, a, w => q3K F n P fn a.tmps R a.defers (.panicking chain) w
 | .outgrown, _, w => R .outgrown w
 | _, _, _ => False
theorem q4R {f : FuncId} {fn : Func} {c : Code} {args : Array Value} {w : World} {R : Ending → World → Prop}
    (hf : P.funcs[f]? = some fn) (hb : fn.body = some c) (hF : F.fn f)
    (h : c.wpIn F n P (bodyPostB F n P fn R) { tmps := args ++ Array.replicate (fn.ntmps - args.size) undef, defers := [] } w) (hro : F.round = none := by rfl) : CallsIn F n P f args w R := by
  refine ⟨hF, fun cs hr => ?_⟩
  let b : Frame := { (default : Frame) with fn := f, kind := .normal, roundOf := none }
  have henter : Frame.enter P f args .normal = b.atR { tmps := args ++ Array.replicate (fn.ntmps - args.size) undef, defers := [] } [.code c] := by
    simp [Frame.enter, Frame.atR, hf, hb, b]
  obtain ⟨e, a', w', hq, harr⟩ := h b [] cs hro.symm hF hr
  rw [← henter] at harr
  cases e with
  | normal =>
    obtain ⟨e', w'', fr', hR, hs, hfn, hl⟩ := q2S a'.defers .returning w' { b.atR a' [] with mode := .returning } cs rfl rfl rfl hf rfl hF hr hq
    exact ⟨e', w'', fr', hR, ComesIn.of_steps (StepsIn.trans harr (.one (fenced_calm (fr := b.atR a' []) hF hr rfl) (stepR_end rfl))) hs, hfn, hl⟩
  | ret =>
    obtain ⟨todo, hs₀⟩ := harr.1 rfl
    obtain ⟨e', w'', fr', hR, hs, hfn, hl⟩ := q2S a'.defers .returning w' { b.atR a' todo with mode := .returning } cs rfl rfl rfl hf rfl hF hr hq
    exact ⟨e', w'', fr', hR, ComesIn.of_steps hs₀ hs, hfn, hl⟩
  | panic chain =>
    obtain ⟨todo, hs₀⟩ := harr
    obtain ⟨e', w'', fr', hR, hs, hfn, hl⟩ := q2S a'.defers (.panicking chain) w' { b.atR a' todo with mode := .panicking chain } cs rfl rfl rfl hf rfl hF hr hq
    exact ⟨e', w'', fr', hR, ComesIn.of_steps hs₀ hs, hfn, hl⟩
  | exit id => exact hq.elim
  | goto l => exact hq.elim
  | outgrown => exact ⟨.outgrown, w', b, hq, harr.resolve_left (by simp [b]), rfl, trivial⟩
end Go
namespace Go.Ax
section
variable {P : Program} {F : Nat → Option Obj} {gl : Nat → AV} {eqT : Knob} {m : Loc}
inductive XRel (P : Program) (F : Nat → Option Obj) (m : Loc) : Ex → Exit → Prop
 | normal : XRel P F m .normal .normal
 | exit (id : Nat) : XRel P F m (.exit id) (.exit id)
 | goto (l : Nat) : XRel P F m (.goto l) (.goto l)
 | ret : XRel P F m .ret .ret
 | panic {v : AV} {cv : Value} (h : VRel P F m v cv) : XRel P F m (.panic v) (.panic [{ v := cv, recovered := false }])
def Post (P : Program) (F : Nat → Option Obj) (m : Loc) (h : Hp) (s' : St) (w : World) (e : Ex) : Exit → Act → World → Prop :=
 fun x a' w' => ∃ m', XRel P F m' e x ∧ Step P F m h s'.h w w' m' ∧ ARel P F m' s' a'
def Sound (P : Program) (F : Nat → Option Obj) (ih : Code → St → Res) : Prop :=
 ∀ c s e s', ih c s = some (e, s') → HpLe s.h s'.h ∧ s'.rd = s.rd ∧ s'.n = s.n ∧
  ∀ m a w fe k, HRel P F m s.h w → ARel P F m s a → FenRel m s.rd fe → Free m s.h s'.h → c.wpIn fe k P (Post P F m s.h s' w e) a w
theorem Free.first {h h1 h2 : Hp} (hf : Free m h h2) (hle : h1.nx ≤ h2.nx) : Free m h h1 := fun r h3 h4 => hf r h3 (Nat.lt_of_lt_of_le h4 hle)
theorem Free.after {h h1 h2 : Hp} {w w1 : World} {m1 : Loc} (hs : Step P F m h h1 w w1 m1) (hf : Free m h h2) : Free m1 h1 h2 := fun r h3 h4 => by
  cases hm : m1 r with
  | none => rfl
  | some c =>
    cases hm0 : m r with
    | none => have := (hs.new r c hm hm0).2; omega
    | some d => have := hf r (Nat.le_trans hs.nx h3) h4; rw [hm0] at this; cases this
theorem tget_e (t : Nat) : tget .e t = .tup [] := by unfold tget; rw [Tr.get_e]
theorem q8W : ∀ (l : List AV) (tm : Tr AV) (i t : Nat), tget (q8M tm i l) t = if i ≤ t then (match l[t - i]? with | some v => v | none => tget tm t) else tget tm t := by
  intro l
  induction l with
  | nil => intro tm i t; simp [q8M]
  | cons v l ih =>
    intro tm i t
    show tget (q8M (tm.set i v) (i + 1) l) t = _
    rw [ih, q4K]
    by_cases h1 : i + 1 ≤ t
    · have e : t - i = (t - (i + 1)) + 1 := by omega
      rw [if_pos h1, if_pos (show i ≤ t by omega), if_neg (show ¬ i = t by omega), e, List.getElem?_cons_succ]
    · rw [if_neg h1]
      by_cases h2 : i = t
      · subst h2; rw [if_pos rfl, if_pos (Nat.le_refl _), Nat.sub_self]; rfl
      · rw [if_neg h2, if_neg (by omega)]
theorem args_rel {args : List AV} {cargs : Array Value} {n : Nat} (h : LRel P F m args cargs.toList) (hn : args.length ≤ n) :
  TRel P F m (q8M .e 0 args) n (cargs ++ Array.replicate (n - cargs.size) Go.undef) := by
 have hl : args.length = cargs.size := by have := h.len; simpa using this
 refine ⟨by simp; omega, fun t ht => ?_, fun t ht => ?_⟩
 ·rw [q8W, if_pos (Nat.zero_le _), Nat.sub_zero, Array.getD_eq_getD_getElem?]
  by_cases hlt : t < args.length
  ·obtain ⟨y, hy, hrel⟩ := h.get (List.getElem?_eq_getElem hlt)
   rw [List.getElem?_eq_getElem hlt, Array.getElem?_append_left (by omega)]
   rw [Array.getElem?_toList] at hy
   rw [hy]; exact hrel
  ·rw [List.getElem?_eq_none (by omega), Array.getElem?_append_right (by omega), Array.getElem?_replicate, if_pos (by omega), tget_e]
   exact LRel.tup .nil
 ·rw [q8W, if_pos (Nat.zero_le _), Nat.sub_zero, List.getElem?_eq_none (by omega), tget_e]
theorem asAddr_sure {cp : Value} {t : TypeId} {cv : Value} {w : World} (h : (Instr.loadAt t cp).run P w = .ok cv w) : (do loadVar t (← asAddr cp) : Sem Value).run P w = .ok cv w := by
  unfold Instr.loadAt at h
  cases cp with
  | pointer a => cases a with
    | none => simp [Instr.sureAddr, stuck, Result.andThen] at h
    | some a => exact h
  | _ => simp [Instr.sureAddr, stuck, Result.andThen] at h
theorem q8X {s : St} {tmps : Array Value} {w : World} (ht : ∀ t, VRel P F m (tget s.tm t) (tmps.getD t Go.undef)) (hr : HRel P F m s.h w) : ∀ (l : List ResultVar) (vs : List AV), q2Q (Ctx.of P gl eqT) s l = some vs →
    ∃ cvs, (l.mapM fun | ResultVar.tmp t => (pure (tmps.getD t Go.undef) : Sem Value) | .cell a t => do loadVar t (← asAddr (tmps.getD a Go.undef))).run P w = .ok cvs w ∧ LRel P F m vs cvs
  | [], vs, h => by cases h; exact ⟨[], by simp, .nil⟩
  | .tmp t :: l, vs, h => by
    unfold q2Q at h
    split at h
    · rename_i us hu
      cases h
      obtain ⟨cvs, h1, h2⟩ := q8X ht hr l us hu
      refine ⟨tmps.getD t Go.undef :: cvs, ?_, .cons (ht t) h2⟩
      rw [List.mapM_cons]
      simp only [Sem.run_bind, Sem.run_pure, Result.andThen]
      rw [h1]
    · cases h
  | .cell a t :: l, vs, h => by
    unfold q2Q at h
    split at h
    · rename_i v us hv hu
      cases h
      obtain ⟨cvs, h1, h2⟩ := q8X ht hr l us hu
      obtain ⟨cv, h3, h4⟩ := loadAt_rel hv (ht a) hr
      refine ⟨cv :: cvs, ?_, .cons h4 h2⟩
      have h5 := asAddr_sure h3
      rw [List.mapM_cons, Sem.run_bind, h5]
      simp only [Sem.run_bind, Sem.run_pure, Result.andThen]
      rw [h1]
    · cases h
theorem results_rel {s : St} {fn : Func} {tmps : Array Value} {w : World} {vs : List AV} (ht : ∀ t, VRel P F m (tget s.tm t) (tmps.getD t Go.undef)) (hr : HRel P F m s.h w) (h : q2Q (Ctx.of P gl eqT) s fn.results.toList = some vs) :
    ∃ cv, (results fn tmps).run P w = .ok cv w ∧ VRel P F m (q0h vs) cv := by
  obtain ⟨cvs, h1, h2⟩ := q8X ht hr _ _ h
  have h3 : (results fn tmps).run P w = .ok (if h : cvs.toArray.size = 1 then cvs.toArray[0] else .tuple cvs.toArray) w := by
    unfold results
    rw [Array.mapM_eq_mapM_toList, Sem.run_bind, Sem.run_map]
    exact congrArg (fun r => Result.andThen (Result.andThen r fun a w' => Result.ok a.toArray w') fun a w' => Sem.run P (pure (if h : a.size = 1 then a[0] else Value.tuple a)) w') h1
  refine ⟨_, h3, ?_⟩
  have hl := h2.len
  match vs, cvs, h2, hl with
  | [], [], h2, _ => exact LRel.tup h2
  | [v], [c], h2, _ => exact h2.head
  | v :: u :: vs, c :: d :: cvs, h2, _ =>
    rw [dif_neg (by simp)]
    exact LRel.tup h2
theorem q3X {f : FuncId} {fn : Func} {c : Code} (hf : P.funcs[f]? = some fn) (hname : (fn.name == "runtime.NumGoroutine") = false) (hb : fn.body = some c) (args : Array Value) (w : World) :
  (callFunc f args).run P w = .ok (.enter f args) w := by
 have h1 : fn.name ≠ "runtime.NumGoroutine" := by simpa using hname
 simp [callFunc, hf, h1, hb]
theorem deferF_rel {ih : Code → St → Res} (hih : Sound P F ih) {f : FuncId} {args : List AV} {h h' : Hp} (hc : deferF (Ctx.of P gl eqT) ih f args h = some h') : HpLe h h' ∧ (∃ fn c, P.funcs[f]? = some fn ∧ fn.body = some c) ∧
  ∀ m w n cargs, HRel P F m h w → LRel P F m args cargs.toList → Free m h h' → CallsDIn Fence.wide n P f cargs .returning w fun e u' w' => u' = .returning ∧ ∃ cv m', e = .returned cv ∧ Step P F m h h' w w' m' := by
 unfold deferF at hc; cases hc
theorem recF_rel {ih : Code → St → Res} (hih : Sound P F ih) {v : AV} {f : FuncId} {args : List AV} {h h' : Hp} (hc : recF (Ctx.of P gl eqT) ih v f args h = some h') : HpLe h h' ∧ (∃ fn c, P.funcs[f]? = some fn ∧ fn.body = some c) ∧
  ∀ m w n cargs pv, HRel P F m h w → VRel P F m v pv → LRel P F m args cargs.toList → Free m h h' → CallsDIn Fence.wide n P f cargs (.panicking [{ v := pv, recovered := false }]) w fun e u' w' => u' = .panicking [{ v := pv, recovered := true }] ∧ ∃ cv m', e = .returned cv ∧ Step P F m h h' w w' m' := by
 unfold recF at hc; cases hc
theorem q4v {ih : Code → St → Res} (hih : Sound P F ih) : ∀ (ds : List ADef) (h h' : Hp), q2q (Ctx.of P gl eqT) ih ds h = some h' → HpLe h h'
  | [], h, h', e => by cases e; exact .refl _
  | .coll r :: l, h, h', e => by
    unfold q2q at e
    split at e
    · rename_i hg
      exact (HpLe.put hg _).trans (q4v hih l _ _ e)
    · cases e
  | .fn (.func g) cap args :: l, h, h', e => by
    unfold q2q at e
    split at e
    · rename_i h1 hd
      exact (deferF_rel hih hd).1.trans (q4v hih l _ _ e)
    · cases e
  | .clr t x :: l, h, h', e => by
    unfold q2q at e
    split at e
    · rename_i h1 hd
      exact (clearA_le hd).trans (q4v hih l _ _ e)
    · cases e
  | .fn (.yield _) _ _ :: _, _, _, e => by cases e
  | .fn (.method _) _ _ :: _, _, _, e => by cases e
theorem q6y (hN : ∀ (f : FuncId) (fn : Func), P.funcs[f]? = some fn → fn.body.isSome = true → (fn.name == "runtime.NumGoroutine") = false) {ih : Code → St → Res} (hih : Sound P F ih) {n : Nat} {fn : Func} {tmps : Array Value} {R : Ending → World → Prop} :
    ∀ (ds : List ADef) (cds : List Deferred) (h h' : Hp) (w : World) (m : Loc), DsRel P F m ds cds → q2q (Ctx.of P gl eqT) ih ds h = some h' → HRel P F m h w → Free m h h' →
    (∀ w' m', Step P F m h h' w w' m' → ∃ v, (results fn tmps).run P w' = .ok v w' ∧ R (.returned v) w') → q3K Fence.wide n P fn tmps R cds .returning w
  | [], cds, h, h', w, m, hd, e, hr, _, hk => by
    cases hd; cases e
    exact hk w m (Step.refl hr rfl (SameOut.refl w))
  | .coll r :: l, cds, h, h', w, m, hd, e, hr, hF, hk => by
    unfold q2q at e
    split at e
    case h_2 => cases e
    rename_i hg
    cases hd with
    | cons hd hds =>
    cases hd with
    | coll hm =>
      rename_i b z
      rcases hr.obj r _ b z hg hm with ⟨_, ho⟩ | ⟨ho, _⟩
      case inr => cases ho
      have hs : Step P F m h (h.put r (.defd none)) w _ m := Step.obj hr hg rfl hm (ob := .deferred none) (.inr ⟨rfl, rfl⟩)
      refine ⟨by simp, .inl ⟨b, _, rfl, ?_, q6y hN hih l _ _ h' _ m hds e hs.rel (Free.after hs hF) fun w' m' hw' => hk w' m' (hs.trans hw')⟩⟩
      unfold Instr.takeDeferred
      rw [Sem.run_bind, q9E ho rfl]
      simp only [Result.andThen, Sem.run_bind]
      rw [q9D ho rfl]
      rfl
  | .fn (.func g) cap args :: l, cds, h, h', w, m, hd, e, hr, hF, hk => by
    unfold q2q at e
    split at e
    case h_2 => cases e
    rename_i h1 hdf
    cases hd with
    | cons hd hds =>
    cases hd with
    | fn q1 q2 =>
      rename_i cds ccap cargs
      obtain ⟨d1, ⟨fn', c', hf', hb'⟩, d3⟩ := deferF_rel hih hdf
      have hle := q4v hih l _ _ e
      refine ⟨by simp, .inr (.inr ⟨fun h => (by cases h), .func g, ccap, g, cargs ++ ccap, rfl, ?_, fun _ _ => trivial, (d3 m w (n - 1) (cargs ++ ccap) hr (by rw [Array.toList_append]; exact q2.append q1) (hF.first hle.nx)).mono fun e' u' w' hq => ?_⟩)⟩
      · show Sem.run P (callFunc g (cargs ++ ccap)) w = _
        exact q3X hf' (hN g fn' hf' (by rw [hb']; rfl)) hb' _ w
      · obtain ⟨rfl, cv, m', rfl, hs⟩ := hq
        show q3K Fence.wide n P fn tmps R cds (settle .returning) w'
        exact q6y hN hih l _ _ h' w' m' (hds.mono hs.le) e hs.rel (Free.after hs hF) fun w2 m2 hw2 => hk w2 m2 (hs.trans hw2)
  | .clr t x :: l, cds, h, h', w, m, hd, e, hr, hF, hk => by
    unfold q2q at e
    split at e
    case h_2 => cases e
    rename_i h1 hdf
    cases hd with
    | cons hd hds =>
    cases hd with
    | clr q1 q2 q3 =>
      rename_i cds ty cx ts k args
      obtain ⟨w', g1, g2⟩ := clearA_rel (ty := ty) q1 q2 hdf q3 hr
      refine ⟨by simp, .inr (.inl ⟨.clear, ts, ty, k, .tuple #[], w', rfl, ?_, q6y hN hih l _ _ h' _ m hds e g2.rel (Free.after g2 hF) fun w2 m2 hw2 => hk w2 m2 (g2.trans hw2)⟩)⟩
      show Sem.run P (builtin .clear ts ty k args) w = _
      unfold builtin
      simp [g1]
  | .fn (.yield _) _ _ :: _, _, _, _, _, _, _, e, _, _, _ => by cases e
  | .fn (.method _) _ _ :: _, _, _, _, _, _, _, e, _, _, _ => by cases e
theorem ret_rel' (hN : ∀ (f : FuncId) (fn : Func), P.funcs[f]? = some fn → fn.body.isSome = true → (fn.name == "runtime.NumGoroutine") = false) {ih : Code → St → Res} (hih : Sound P F ih) {s : St} {h' : Hp} {fn : Func} {vs : List AV} {m1 : Loc} {h h1 : Hp} {w w1 : World} {tmps : Array Value} {ds : List ADef} {cds : List Deferred} {n : Nat} (ha : TRel P F m1 s.tm s.n tmps) (hds : DsRel P F m1 ds cds) (hs : Step P F m h h1 w w1 m1) (hF : Free m1 h1 h') (hd : q2q (Ctx.of P gl eqT) ih ds h1 = some h') (hres : q2Q (Ctx.of P gl eqT) { s with h := h' } fn.results.toList = some vs) :
  q3K Fence.wide n P fn tmps (fun e w' => ∃ cv m', e = .returned cv ∧ Step P F m h h' w w' m' ∧ VRel P F m' (q0h vs) cv) cds .returning w1 := by
 refine q6y hN hih ds _ h1 h' w1 m1 hds hd hs.rel hF fun w' m' hw' => ?_
 have ht : ∀ t, VRel P F m' (tget s.tm t) (tmps.getD t Go.undef) := fun t => by
  by_cases hlt : t < s.n
  ·exact (ha.at' t hlt).mono hw'.le
  ·rw [ha.out t (by omega), Array.getD_eq_getD_getElem?, Array.getElem?_eq_none (by rw [ha.size]; omega)]
   exact LRel.tup .nil
 obtain ⟨cv, h1, h2⟩ := results_rel (s := { s with h := h' }) ht hw'.rel hres
 exact ⟨cv, h1, cv, m', rfl, hs.trans hw', h2⟩
theorem ret_rel (hN : ∀ (f : FuncId) (fn : Func), P.funcs[f]? = some fn → fn.body.isSome = true → (fn.name == "runtime.NumGoroutine") = false) {ih : Code → St → Res} (hih : Sound P F ih) {s : St} {h' : Hp} {fn : Func} {vs : List AV} {m1 : Loc} {h : Hp} {w w1 : World} {a : Act} {n : Nat} (ha : ARel P F m1 s a) (hs : Step P F m h s.h w w1 m1) (hF : Free m1 s.h h') (hd : q2q (Ctx.of P gl eqT) ih s.ds s.h = some h') (hres : q2Q (Ctx.of P gl eqT) { s with h := h' } fn.results.toList = some vs) :
  q3K Fence.wide n P fn a.tmps (fun e w' => ∃ cv m', e = .returned cv ∧ Step P F m h h' w w' m' ∧ VRel P F m' (q0h vs) cv) a.defers .returning w1 :=
 ret_rel' hN hih ha.tm ha.ds hs hF hd hres
theorem callF_rel (hP : POk P F gl eqT) {ih : Code → St → Res} (hih : Sound P F ih) {f : FuncId} {args : List AV} {h : Hp} {r : OpR} (hc : callF (Ctx.of P gl eqT) ih f args h = some r) :
    ∃ v h' fn c, r = .val v h' ∧ P.funcs[f]? = some fn ∧ fn.body = some c ∧ HpLe h h' ∧ Calling P F h h' v f args := by
  unfold callF at hc
  split at hc
  case h_2 => cases hc
  rename_i fn hf
  have hf := Ctx.of_fn hf
  split at hc
  case h_2 => cases hc
  rename_i c hb
  split at hc
  · rename_i v ho
    cases hc
    refine ⟨_, _, fn, c, rfl, hf, hb, .refl _, fun m w n cargs hR hA _ => (hP.orc _ _ _ ho m w n cargs hR.frz hA).mono fun e w' he => ?_⟩
    obtain ⟨cv, fz, rfl, hs, hz, hold, hfz, hle, hnew, hv⟩ := he
    have hlm : Loc.le m ⟨m, fz⟩ := ⟨fun _ _ h => h, hle⟩
    refine ⟨cv, ⟨m, fz⟩, rfl, ⟨hlm, fun r c h1 h2 => ?_, ⟨fun r o b z hg hm => ?_, hR.inj, fun r o b z hg hl hm => ?_, fun b o hb => ?_, hR.wf⟩, hs, hz, fun b hb _ => hold b hb, Nat.le_refl _, fun r o' c hg hl _ => ⟨o', hg, hl⟩, fun r b z h1 h2 _ => ?_, fun b o hb => (hnew b o hb).imp_right .inl⟩, VRel.mono (m := ⟨fun _ => none, fz⟩) (m' := ⟨m, fz⟩) ⟨fun r c h => (by cases h), fun _ _ h => h⟩ hv⟩
    · have h1 : m r = some c := h1
      rw [h2] at h1; cases h1
    · have h1 := hR.obj r o b z hg hm
      by_cases hl : o.live = true
      · rw [hold b (hR.lt hg hl hm)]; exact h1.mono hlm
      · cases o <;> first | trivial
    · obtain ⟨h1, h2⟩ := hR.out r o b z hg hl hm
      refine ⟨h1, ?_⟩
      show fz b = none
      cases hf : fz b with
      | none => rfl
      | some x => rcases hnew b x hf with h3 | h3
                  · rw [h2] at h3; cases h3
                  · have := hR.lt hg hl hm; omega
    · rcases hb with hb | hb
      · have h1 : Fz F m b o := .inl hb
        rw [hold b (hR.flt h1)]; exact hR.frz b o h1
      · exact hfz b o hb
    · have h1 : m r = some (b, z) := h1
      rw [h2] at h1; cases h1
  split at hc
  · rename_i x hp
    cases hc
    obtain ⟨g1, g2⟩ := hP.prim _ _ _ _ _ hp
    exact ⟨_, _, fn, c, rfl, hf, hb, g1, g2⟩
  cases hle : Nat.ble args.length fn.ntmps with
  | false => rw [hle] at hc; cases hc
  | true =>
  rw [hle] at hc
  simp only [cond_true] at hc
  have hle := Nat.le_of_ble_eq_true hle
  split at hc
  · rename_i s hr
    split at hc
    case h_2 => cases hc
    rename_i h' hd
    split at hc
    case h_2 => cases hc
    rename_i vs hres
    cases hc
    obtain ⟨g1, g2, g3, g4⟩ := hih _ _ _ _ hr
    have hl := q4v hih _ _ _ hd
    refine ⟨_, _, fn, c, rfl, hf, hb, g1.trans hl, fun m w n cargs hR hA hF => ?_⟩
    refine q4R hf hb trivial (wpIn_mono (g4 m _ w _ n hR ⟨args_rel hA hle, .nil⟩ rfl (hF.first hl.nx)) fun x a' w' hp => ?_)
    obtain ⟨m1, hx, hs, ha⟩ := hp
    cases hx
    exact ret_rel hP.names hih ha hs (Free.after hs hF) hd hres
  · rename_i s hr
    split at hc
    case h_2 => cases hc
    rename_i h' hd
    split at hc
    case h_2 => cases hc
    rename_i vs hres
    cases hc
    obtain ⟨g1, g2, g3, g4⟩ := hih _ _ _ _ hr
    have hl := q4v hih _ _ _ hd
    refine ⟨_, _, fn, c, rfl, hf, hb, g1.trans hl, fun m w n cargs hR hA hF => ?_⟩
    refine q4R hf hb trivial (wpIn_mono (g4 m _ w _ n hR ⟨args_rel hA hle, .nil⟩ rfl (hF.first hl.nx)) fun x a' w' hp => ?_)
    obtain ⟨m1, hx, hs, ha⟩ := hp
    cases hx
    exact ret_rel hP.names hih ha hs (Free.after hs hF) hd hres
  · rename_i pv s hr
    split at hc
    case h_2 => cases hc
    rename_i g cap dargs ds hds
    split at hc
    case h_2 => cases hc
    rename_i h1 hrec
    split at hc
    case h_2 => cases hc
    rename_i h' hd
    split at hc
    case h_2 => cases hc
    rename_i vs hres
    cases hc
    obtain ⟨g1, g2, g3, g4⟩ := hih _ _ _ _ hr
    have hl := q4v hih _ _ _ hd
    obtain ⟨r1, ⟨fn', c', hf', hb'⟩, r3⟩ := recF_rel hih hrec
    refine ⟨_, _, fn, c, rfl, hf, hb, (g1.trans r1).trans hl, fun m w n cargs hR hA hF => ?_⟩
    refine q4R hf hb trivial (wpIn_mono (g4 m _ w _ n hR ⟨args_rel hA hle, .nil⟩ rfl (hF.first (Nat.le_trans r1.nx hl.nx))) fun x a' w' hp => ?_)
    obtain ⟨m1, hx, hs, ha⟩ := hp
    cases hx with
    | panic hpv =>
    rename_i cpv
    have hds' := ha.ds
    have hF1 := Free.after hs hF
    show q3K Fence.wide n P fn a'.tmps _ a'.defers (.panicking [{ v := cpv, recovered := false }]) w'
    rw [hds] at hds'
    generalize a'.defers = dd at hds'
    cases hds' with
    | cons q hq =>
    cases q with
    | fn q1 q2 =>
      rename_i cds ccap cargs'
      refine ⟨by simp, .inr (.inr ⟨fun h => (by cases h), .func g, ccap, g, cargs' ++ ccap, rfl, ?_, fun _ _ => trivial, (r3 m1 w' (n - 1) (cargs' ++ ccap) cpv hs.rel hpv (by rw [Array.toList_append]; exact q2.append q1) (hF1.first hl.nx)).mono fun e' u' w2 hq2 => ?_⟩)⟩
      · show Sem.run P (callFunc g (cargs' ++ ccap)) w' = _
        exact q3X hf' (hP.names g fn' hf' (by rw [hb']; rfl)) hb' _ w'
      · obtain ⟨rfl, cv, m2, rfl, hs2⟩ := hq2
        show q3K Fence.wide n P fn a'.tmps _ cds .returning w2
        exact ret_rel' hP.names hih (ha.tm.mono hs2.le) (hq.mono hs2.le) (hs.trans hs2) (Free.after hs2 hF1) hd hres
  · cases hc
end
end Go.Ax
namespace Go.Ax
section
variable {P : Program} {F : Nat → Option Obj} {gl : Nat → AV} {eqT : Knob} {m : Loc}
theorem q7X {n : Nat} : ∀ (ps : List Nat) (args : List AV) (cargs : List Value) (tm tm' : Tr AV) (t : Array Value), z1u tm ps args = some tm' → LRel P F m args cargs → (ps.all fun p => Nat.blt p n) = true → TRel P F m tm n t →
    ps.length = args.length ∧ TRel P F m tm' n ((ps.zip cargs).foldl (fun tmps (x : Nat × Value) => tmps.setIfInBounds x.1 x.2) t)
  | [], [], cargs, tm, tm', t, h, hl, _, ht => by
    cases hl.cases_nil; cases h
    exact ⟨rfl, ht⟩
  | p :: ps, v :: vs, cargs, tm, tm', t, h, hl, ha, ht => by
    obtain ⟨c, cs, rfl, h1, h2⟩ := hl.cases_cons
    simp only [List.all_cons, Bool.and_eq_true] at ha
    have hp : p < n := Nat.le_of_ble_eq_true ha.1
    obtain ⟨g1, g2⟩ := q7X ps vs cs (tm.set p v) tm' (t.setIfInBounds p c) h h2 ha.2 (ht.put hp h1)
    exact ⟨by simp [g1], g2⟩
  | [], _ :: _, _, _, _, _, h, _, _, _ => by cases h
  | _ :: _, [], _, _, _, _, h, _, _, _ => by cases h
theorem q7T {w : World} {b : Nat} {r : Loop} (h : w.heap[b]? = some (.loop r)) : (Instr.getLoop b).run P w = .ok r w := by
 unfold Instr.getLoop
 rw [Sem.run_bind, q9E h rfl]
 rfl
theorem run_yield {w : World} {b : Nat} {r : Loop} {args : Array Value} (h : w.heap[b]? = some (.loop r)) (hn : args.size = r.params.size) :
  (Instr.yield b args).run P w = .ok (.round b r.fn ((r.params.zip args).foldl (fun tmps (x : Nat × Value) => tmps.setIfInBounds x.1 x.2) r.tmps) r.assign r.body) w := by
 unfold Instr.yield
 rw [Sem.run_bind, q7T h]
 simp only [Result.andThen, hn, ne_eq, not_true_eq_false, if_false]
 rfl
theorem z0c {w : World} {b : Nat} {r : Loop} (h : w.heap[b]? = some (.loop r)) (hs : r.state = .ready) :
  (Instr.beginRound b).run P w = .ok () { w with heap := w.heap.setIfInBounds b (.loop { r with state := .busy }) } := by
 unfold Instr.beginRound
 rw [Sem.run_bind, q7T h]
 simp only [Result.andThen, Sem.run_bind]
 rw [q9D h rfl]
 simp only [hs]
 rfl
theorem run_endRound {w : World} {b : Nat} {r : Loop} (h : w.heap[b]? = some (.loop r)) (jump : Option Code) :
  (Instr.endRound b jump).run P w = .ok (.bool jump.isNone) { w with heap := w.heap.setIfInBounds b (.loop { r with state := if jump.isNone then .ready else .done, pending := jump }) } := by
 unfold Instr.endRound
 rw [Sem.run_bind, q7T h]
 simp only [Result.andThen, Sem.run_bind]
 rw [q9D h rfl]
 rfl
def Heard (P : Program) (F : Nat → Option Obj) (m : Loc) (h h' : Hp) (w : World) (v : AV) : Ending → World → Prop :=
 fun e w' => ∃ cv m', e = .returned cv ∧ Step P F m h h' w w' m' ∧ VRel P F m' v cv
theorem loop_at {h : Hp} {w : World} (hr : HRel P F m h w) {l b z n ds : Nat} {st : LoopState} {pd : Option Code} {tm : Tr AV} {ps : List Nat} {asn body : Code} (hg : h.get l = some (.loop st pd tm n ps asn body ds)) (hm : m l = some (b, z)) :
  ∃ fn tmps cds zd, w.heap[b]? = some (.loop { state := st, pending := pd, fn := fn, tmps := tmps, params := ps.toArray, assign := asn, body := body, defers := cds }) ∧ TRel P F m tm n tmps ∧ m ds = some (cds, zd) :=
 hr.obj l _ b z hg hm
theorem loop_put {h : Hp} {w : World} (hr : HRel P F m h w) {l b z n ds : Nat} {st st' : LoopState} {pd pd' : Option Code} {tm : Tr AV} {ps : List Nat} {asn body : Code} {fn : FuncId} {tmps : Array Value} {cds zd : Nat} (hg : h.get l = some (.loop st pd tm n ps asn body ds)) (hm : m l = some (b, z))
  (ht : TRel P F m tm n tmps) (hd : m ds = some (cds, zd)) :
  Step P F m h (h.put l (.loop st' pd' tm n ps asn body ds)) w { w with heap := w.heap.setIfInBounds b (.loop { state := st', pending := pd', fn := fn, tmps := tmps, params := ps.toArray, assign := asn, body := body, defers := cds }) } m :=
 Step.obj hr hg rfl hm ⟨fn, tmps, cds, zd, rfl, ht, hd⟩
theorem q8O {h0 : Hp} {m0 m2 : Loc} {w0 w2 : World} {s2 : St} {l b z n ds : Nat} {pd : Option Code} {tm : Tr AV} {ps : List Nat} {asn body : Code} (hs : Step P F m0 h0 s2.h w0 w2 m2) (hg : s2.h.get l = some (.loop .busy pd tm n ps asn body ds)) (hm : m2 l = some (b, z)) (jump : Option Code) :
  ∃ v w', (Instr.endRound b jump).run P w2 = .ok v w' ∧ Heard P F m0 h0 (s2.h.put l (.loop (if jump.isNone then .ready else .done) jump tm n ps asn body ds)) w0 (.bool jump.isNone) (.returned v) w' := by
 obtain ⟨fn, tmps, cds, zd, h1, h2, h3⟩ := loop_at hs.rel hg hm
 exact ⟨_, _, run_endRound h1 jump, _, m2, rfl, hs.trans (loop_put hs.rel hg hm h2 h3), .bool _⟩
theorem yieldF_rel {ih : Code → St → Res} (hih : Sound P F ih) {l : Nat} {args : List AV} {h : Hp} {r : OpR} (hc : yieldF ih l args h = some r) :
  ∃ v h', r = .val v h' ∧ HpLe h h' ∧ ∀ m w n cargs b z, m l = some (b, z) → HRel P F m h w → LRel P F m args cargs.toList → Free m h h' →
   ∃ f tmps asn body, (Instr.yield b cargs).run P w = .ok (.round b f tmps asn body) w ∧ RoundIn Fence.wide n P b f tmps asn body w (Heard P F m h h' w v) := by
 unfold yieldF at hc
 split at hc
 case h_2 => cases hc
 rename_i pd tm n ps asn body ds hg
 split at hc
 ·cases hc
 rename_i tm' htm
 cases hall : (ps.all fun p => Nat.blt p n) with
 | false => rw [hall] at hc; cases hc
 | true =>
 rw [hall] at hc
 simp only [cond_true] at hc
 split at hc
 case h_2 => cases hc
 rename_i s1 hr1
 split at hc
 case h_2 => cases hc
 rename_i pd2 tm2 n2 ps2 as2 b2 ds2 hg1
 split at hc
 case h_2 => cases hc
 rename_i e s2 hr2
 split at hc
 case h_2 => cases hc
 rename_i pd3 tm3 n3 ps3 as3 b3 ds3 hg2
 obtain ⟨a1, a2, a3, a4⟩ := hih _ _ _ _ hr1
 obtain ⟨b1, b2', b3', b4⟩ := hih _ _ _ _ hr2
 have hle : HpLe h s2.h := (a1.trans (HpLe.put hg1 _)).trans b1
 have main : ∀ (jump : Option Code) (v : AV), v = .bool jump.isNone →
   (∀ m x, XRel P F m e x → (x = .normal ∧ jump = none) ∨ (x = .ret ∧ jump = some .ret) ∨ (∃ id, x = .exit id ∧ jump = some (.exit id)) ∨ (∃ g, x = .goto g ∧ jump = some (.goto g))) →
   HpLe h (s2.h.put l (.loop (if jump.isNone then .ready else .done) jump tm3 n3 ps3 as3 b3 ds3)) ∧ ∀ m w k cargs b z, m l = some (b, z) → HRel P F m h w → LRel P F m args cargs.toList → Free m h (s2.h.put l (.loop (if jump.isNone then .ready else .done) jump tm3 n3 ps3 as3 b3 ds3)) →
   ∃ f tmps asn body, (Instr.yield b cargs).run P w = .ok (.round b f tmps asn body) w ∧ RoundIn Fence.wide k P b f tmps asn body w (Heard P F m h (s2.h.put l (.loop (if jump.isNone then .ready else .done) jump tm3 n3 ps3 as3 b3 ds3)) w v) := by
  intro jump v hv hx
  subst hv
  refine ⟨hle.trans (HpLe.put hg2 _), fun m w k cargs b z hm hr hA hF => ?_⟩
  have hF : Free m h s2.h := hF
  obtain ⟨fn, tmps, cds, zd, h1, h2, h3⟩ := loop_at hr hg hm
  obtain ⟨g1, g2⟩ := q7X ps args cargs.toList tm tm' tmps htm hA hall h2
  have hsz : cargs.size = ps.toArray.size := by have := hA.len; simp at this; simp; omega
  have hfold : (ps.toArray.zip cargs).foldl (fun tmps (x : Nat × Value) => tmps.setIfInBounds x.1 x.2) tmps = (ps.zip cargs.toList).foldl (fun tmps (x : Nat × Value) => tmps.setIfInBounds x.1 x.2) tmps := by
   rw [← Array.foldl_toList]; simp [Array.toList_zip]
  refine ⟨fn, _, asn, body, run_yield h1 hsz, roundIn_of_wpIn trivial ?_⟩
  dsimp only
  rw [hfold]
  have hF1 : Free m h s1.h := hF.first b1.nx
  refine wpIn_mono (a4 m _ w (Fence.wide.inRound b) k hr ⟨g2, .nil⟩ ⟨b, z, hm, rfl⟩ hF1) fun x1 act1 w1 hp1 => ?_
  obtain ⟨m1, hx1, hs1, ha1⟩ := hp1
  cases hx1
  have hm1 := hs1.le _ _ hm
  obtain ⟨fn1, tmps1, cds1, zd1, h11, h12, h13⟩ := loop_at hs1.rel hg1 hm1
  have hst := loop_put (st' := .busy) (pd' := pd2) (fn := fn1) hs1.rel hg1 hm1 h12 h13
  have hs1' := hs1.trans hst
  have hb : body = body := rfl
  refine ⟨_, z0c h11 rfl, ?_⟩
  have hF2 : Free m1 (s1.h.put l (.loop .busy pd2 tm2 n2 ps2 as2 b2 ds2)) s2.h := Free.after hs1' hF
  refine wpIn_mono (b4 m1 act1 _ (Fence.wide.inRound b) k hst.rel ⟨ha1.tm, ha1.ds⟩ (by rw [show ({ s1 with h := s1.h.put l (.loop .busy pd2 tm2 n2 ps2 as2 b2 ds2) } : St).rd = some l from a2]; exact ⟨b, z, hm1, rfl⟩) hF2) fun x2 act2 w2 hp2 => ?_
  obtain ⟨m2, hx2, hs2, ha2⟩ := hp2
  have hs := hs1'.trans hs2
  have hm2 := hs2.le _ _ hm1
  rcases hx m2 x2 hx2 with ⟨rfl, rfl⟩ | ⟨rfl, rfl⟩ | ⟨id, rfl, rfl⟩ | ⟨g, rfl, rfl⟩
  ·exact q8O hs hg2 hm2 none
  ·exact q8O hs hg2 hm2 (some .ret)
  ·exact q8O hs hg2 hm2 (some (.exit id))
  ·exact q8O hs hg2 hm2 (some (.goto g))
 split at hc
 ·cases hc
  obtain ⟨g1, g2⟩ := main none _ rfl (fun m x hx => by cases hx; exact .inl ⟨rfl, rfl⟩)
  exact ⟨_, _, rfl, g1, g2⟩
 ·cases hc
  obtain ⟨g1, g2⟩ := main (some .ret) _ rfl (fun m x hx => by cases hx; exact .inr (.inl ⟨rfl, rfl⟩))
  exact ⟨_, _, rfl, g1, g2⟩
 ·rename_i id
  cases hc
  obtain ⟨g1, g2⟩ := main (some (.exit id)) _ rfl (fun m x hx => by cases hx; exact .inr (.inr (.inl ⟨_, rfl, rfl⟩)))
  exact ⟨_, _, rfl, g1, g2⟩
 ·rename_i g
  cases hc
  obtain ⟨g1, g2⟩ := main (some (.goto g)) _ rfl (fun m x hx => by cases hx; exact .inr (.inr (.inr ⟨_, rfl, rfl⟩)))
  exact ⟨_, _, rfl, g1, g2⟩
 ·cases hc
def Acts (P : Program) (F : Nat → Option Obj) (m : Loc) (h h' : Hp) (w : World) (v : AV) (q : Sem Next) : Prop :=
 Does P F m h h' w v q ∨ (∃ f args, q.run P w = .ok (.enter f args) w ∧ ∀ n, CallsIn Fence.wide n P f args w (Heard P F m h h' w v)) ∨
  (∃ l f tmps asn body, q.run P w = .ok (.round l f tmps asn body) w ∧ ∀ n, RoundIn Fence.wide n P l f tmps asn body w (Heard P F m h h' w v))
theorem Acts.wp {h h' : Hp} {w : World} {v : AV} {o : Oper} {a : Act} {fe : Fence} {rd : Option Nat} {n : Nat} {K : Act → World → Prop} {Q : Exit → Act → World → Prop}
  (hd : Acts P F m h h' w v (execOp a.eval o)) (hnd : ∀ c, o.op ≠ .defer c) (hf : FenRel m rd fe)
  (hK : ∀ m' cv w', Step P F m h h' w w' m' → VRel P F m' v cv → K (a.put o.dst cv) w') : o.wpIn fe n P a w K Q := by
 rcases hd with hd | ⟨f, args, h1, h2⟩ | ⟨l, f, tmps, asn, body, h1, h2⟩
 ·exact hd.wp hnd hf hK
 ·refine ⟨fun f _ => hf.fn f, ?_⟩
  rw [Oper.semAt_eq _ _ _ hnd, h1]
  refine ⟨fun h => (by rw [hf.depth] at h; cases h), ?_⟩
  have h3 : CallsIn fe (n - 1) P f args w (Heard P F m h h' w v) := by
   cases rd with
   | none => cases hf; exact h2 _
   | some l => obtain ⟨_, _, _, rfl⟩ := hf; exact h2 _
  refine h3.mono fun e w' he => ?_
  obtain ⟨cv, m', rfl, g1, g2⟩ := he
  exact hK _ _ _ g1 g2
 ·refine ⟨fun f _ => hf.fn f, ?_⟩
  rw [Oper.semAt_eq _ _ _ hnd, h1]
  refine ⟨fun h => (by rw [hf.depth] at h; cases h), ?_⟩
  have h3 : RoundIn fe (n - 1) P l f tmps asn body w (Heard P F m h h' w v) := by
   cases rd with
   | none => cases hf; exact h2 _
   | some l => obtain ⟨_, _, _, rfl⟩ := hf; exact h2 _
  refine h3.mono fun e w' he => ?_
  obtain ⟨cv, m', rfl, g1, g2⟩ := he
  exact hK _ _ _ g1 g2
theorem applyF_rel (hP : POk P F gl eqT) {ih : Code → St → Res} (hih : Sound P F ih) {f : AV} {args : List AV} {h : Hp} {r : OpR} (hc : applyF (Ctx.of P gl eqT) ih f args h = some r) :
  ∃ v h', r = .val v h' ∧ HpLe h h' ∧ ∀ m w cf cargs, HRel P F m h w → VRel P F m f cf → LRel P F m args cargs.toList → Free m h h' →
   Acts P F m h h' w v (do let d ← Deferred.ofValue cf cargs; invoke d.target d.args) := by
 unfold applyF at hc
 split at hc
 ·rename_i g first cap
  split at hc
  ·rename_i v hx
   cases hc
   refine ⟨v, h, rfl, .refl _, fun m w cf cargs hr hf hA hF => ?_⟩
   obtain ⟨f', x, y, rfl, hfn, hx', hy'⟩ := hf.fn_inv
   cases hfn
   obtain ⟨cv, w', g1, g2, g3, g4⟩ := hP.ext _ _ _ hx m w ((x ++ cargs) ++ y) (by rw [Array.toList_append, Array.toList_append]; exact (hx'.append hA).append hy')
   exact .inl ⟨.value cv, cv, w', m, g1, .inl rfl, Step.refl hr g2 g3, g4⟩
  obtain ⟨v, h', fn, c, rfl, h1, h2, h3, h4⟩ := callF_rel hP hih hc
  refine ⟨v, h', rfl, h3, fun m w cf cargs hr hf hA hF => ?_⟩
  obtain ⟨f', x, y, rfl, hfn, hx, hy⟩ := hf.fn_inv
  cases hfn
  refine .inr (.inl ⟨g, (x ++ cargs) ++ y, ?_, fun n => h4 m w n _ hr ?_ hF⟩)
  ·show Sem.run P (callFunc g ((x ++ cargs) ++ y)) w = _
   exact q3X h1 (hP.names g fn h1 (by rw [h2]; rfl)) h2 _ w
  ·rw [Array.toList_append, Array.toList_append]
   exact (hx.append hA).append hy
 ·rename_i l
  obtain ⟨v, h', rfl, h3, h4⟩ := yieldF_rel hih hc
  refine ⟨v, h', rfl, h3, fun m w cf cargs hr hf hA hF => ?_⟩
  obtain ⟨f', x, y, rfl, hfn, hx, hy⟩ := hf.fn_inv
  cases hfn with
  | yield hm =>
  rename_i b z
  have hx0 : x = #[] := by have := hx.cases_nil; simpa using this
  subst hx0
  obtain ⟨f, tmps, asn, body, g1, _⟩ := h4 m w 0 cargs b z hm hr hA hF
  refine .inr (.inr ⟨b, f, tmps, asn, body, ?_, fun n => ?_⟩)
  ·show Sem.run P (Instr.yield b (#[] ++ cargs)) w = _
   rw [Array.empty_append]; exact g1
  ·obtain ⟨f2, tmps2, asn2, body2, g3, g4⟩ := h4 m w n cargs b z hm hr hA hF
   rw [g1] at g3; cases g3
   exact g4
 ·cases hc
end
end Go.Ax
namespace Go.Ax
section
variable {P : Program} {F : Nat → Option Obj} {gl : Nat → AV} {eqT : Knob} {m : Loc}
theorem nilif_eq (hE : EqOk P eqT) {op : BinOp} {t : TypeId} {ox oy : Operand} {w : World} {ti : TI} {ms : _} (ht : (Ctx.of P gl eqT).ti t = some ti) (hd : ti.desc = .interface ms) (hc : (q9z ox || q9z oy) = true) (hop : op = .eql ∨ op = .neq) :
  (do eqGuard op t ox oy .nilIface .nilIface; binOp op t .nilIface .nilIface : Sem Value).run P w = .ok (.bool (op == .eql)) w := by
 have hu := q1q ht
 rw [hd] at hu
 have h1 : (eqGuard op t ox oy .nilIface .nilIface).run P w = .ok () w := by
  unfold eqGuard
  rcases hop with rfl | rfl <;> cases ox <;> cases oy <;> first | rfl | cases hc
 have h2 : (Op.equalIn Op.maxDepth t .nilIface .nilIface).run P w = .ok true w := by
  refine eqA_rel (gl := gl) (F := fun _ => none) (m := ⟨fun _ => none, fun _ => none⟩) hE w 1 t .nilif .nilif true ?_ _ _ .nilif .nilif _ (by decide)
  unfold eqA eqStep
  rw [ht]
  simp only [hd]
 have h3 := z1A (t := t) (cx := .nilIface) (cy := .nilIface) (by rintro ⟨_, _, _, _, h, _⟩; cases h) (by rintro ⟨_, _, h, _⟩; cases h) nofun nofun
 rw [Sem.run_bind, h1]
 simp only [Result.andThen]
 rcases hop with rfl | rfl
 ·rw [h3.1, Sem.run_bind]
  unfold Op.equal
  rw [h2]; rfl
 ·rw [h3.2, Sem.run_bind]
  unfold Op.equal
  rw [h2]; rfl
theorem invoke_rel (hP : POk P F gl eqT) {ih : Code → St → Res} (hih : Sound P F ih) {x : AV} {name : String} {t : TypeId} {f : FuncId} {args : List AV} {h : Hp} {r : OpR} (hm : methodA P (Ctx.of P gl eqT) t name = some f)
  (hc : callF (Ctx.of P gl eqT) ih f (x :: args) h = some r) :
  ∃ v h', r = .val v h' ∧ HpLe h h' ∧ ∀ m w cx cargs, HRel P F m h w → VRel P F m x cx → LRel P F m args cargs.toList → Free m h h' →
   Acts P F m h h' w v (invoke (.fn (.method name) #[]) (#[.iface t cx] ++ cargs)) := by
 unfold methodA at hm; cases hm
theorem opA_nd {ih : Code → St → Res} {s : St} {o : Oper} {r : OpR} (ho : opA P (Ctx.of P gl eqT) ih s o = some r) (hr : ∀ d, r ≠ .push d) : ∀ c, o.op ≠ .defer c := by
 intro c hc
 unfold opA at ho
 rw [hc] at ho
 dsimp only at ho
 split at ho
 ·unfold deferA at ho
  split at ho
  ·cases ho; exact hr _ rfl
  ·cases ho
 ·unfold deferC at ho
  split at ho
  ·cases ho; exact hr _ rfl
  ·cases ho
 ·cases ho
theorem makeMap_run {t kt e : TypeId} {ti : TI} {w : World} (ht : (Ctx.of P gl eqT).ti t = some ti) (hd : ti.desc = .map kt e) {rs : Option Value} (hrs : ∀ v, rs = some v → ∃ k n, v = .int k n) :
    (Instr.makeMap t rs).run P w = .ok (.map (some w.heap.size)) { w with heap := w.heap.push (.map #[] 0) } := by
  have hu := q1q ht
  rw [hd] at hu
  cases rs with
  | none => rfl
  | some v =>
    obtain ⟨k, n, rfl⟩ := hrs v rfl
    simp only [Instr.makeMap, Sem.run_bind, run_underlying hu, Result.andThen_ok]
    rfl
theorem opA_rel (hP : POk P F gl eqT) {ih : Code → St → Res} (hih : Sound P F ih) {s : St} {o : Oper} {r : OpR} (ho : opA P (Ctx.of P gl eqT) ih s o = some r) (hnd : ∀ c, o.op ≠ .defer c) :
    ∃ v h', r = .val v h' ∧ HpLe s.h h' ∧ (∀ c, o.op ≠ .defer c) ∧ ∀ m (a : Act) w, HRel P F m s.h w → TRel P F m s.tm s.n a.tmps → Free m s.h h' → Acts P F m s.h h' w v (execOp a.eval o) := by
  unfold opA at ho
  unfold execOp
  cases hop : o.op <;> simp only [hop] at ho ⊢
  case move x => cases ho; exact ⟨_, _, rfl, .refl _, nofun, fun m a w hr ht hF => .inl ⟨_, _, w, m, rfl, .inl rfl, Step.refl hr rfl (SameOut.refl w), q0x hP ht x⟩⟩
  case assign x => cases ho; exact ⟨_, _, rfl, .refl _, nofun, fun m a w hr ht hF => .inl ⟨_, _, w, m, rfl, .inl rfl, Step.refl hr rfl (SameOut.refl w), q0x hP ht x⟩⟩
  case pick c a b =>
    split at ho
    case h_2 => cases ho
    rename_i t hc
    cases ho
    refine ⟨_, _, rfl, .refl _, nofun, fun m act w hr ht hF => ?_⟩
    have h1 := q0x hP ht c
    rw [hc] at h1
    have h2 := h1.bool_inv
    refine .inl ⟨.value (if t then act.eval a else act.eval b), _, w, m, ?_, .inl rfl, Step.refl hr rfl (SameOut.refl w), ?_⟩
    · rw [h2]; simp [asBool]
    · cases t
      · exact q0x hP ht b
      · exact q0x hP ht a
  case alloc t =>
    obtain ⟨y, h1, rfl⟩ := q0B ho
    exact ⟨_, _, rfl, alloc_le h1, nofun, fun m a w hr ht hF => .inl (.ofV (alloc_rel h1 hr hF))⟩
  case box t x =>
    obtain ⟨y, h1, rfl⟩ := q0B ho
    exact ⟨_, _, rfl, box_le h1, nofun, fun m a w hr ht hF => .inl (.ofV (box_rel h1 (q0x hP ht x) hr hF))⟩
  case build t ps =>
    obtain ⟨y, h1, rfl⟩ := q0B ho
    exact ⟨_, _, rfl, .refl _, nofun, fun m a w hr ht hF => .inl (.pureV hr (build_rel h1 (PRel.map (q0x hP ht) ps)))⟩
  case buildSlice t n ps =>
    obtain ⟨y, h1, rfl⟩ := q0B ho
    exact ⟨_, _, rfl, buildSlice_le h1, nofun, fun m a w hr ht hF => .inl (.ofV (buildSlice_rel h1 (PRel.map (q0x hP ht) ps) hr hF))⟩
  case load t x =>
    obtain ⟨y, h1, rfl⟩ := q0B ho
    exact ⟨_, _, rfl, .refl _, nofun, fun m a w hr ht hF => .inl (.pureV hr (loadAt_rel h1 (q0x hP ht x) hr))⟩
  case store t x y =>
    obtain ⟨y', h1, rfl⟩ := q0B ho
    exact ⟨_, _, rfl, storeAt_le h1, nofun, fun m a w hr ht hF => .inl (.ofU (storeAt_rel h1 (q0x hP ht x) (q0x hP ht y) hr))⟩
  case nilCheck x =>
    split at ho
    · rename_i r' o' hx
      cases ho
      refine ⟨_, _, rfl, .refl _, nofun, fun m a w hr ht hF => ?_⟩
      have h1 := q0x hP ht x
      rw [hx] at h1
      obtain ⟨b, z, hm, h2⟩ := h1.ptr_inv
      rw [h2]
      exact .inl ⟨_, _, w, m, rfl, .inl rfl, Step.refl hr rfl (SameOut.refl w), .ptr hm⟩
    · rename_i xs i o' hx
      cases ho
      refine ⟨_, _, rfl, .refl _, nofun, fun m a w hr ht hF => ?_⟩
      have h1 := q0x hP ht x
      rw [hx] at h1
      generalize a.eval x = cx at h1
      cases h1 with
      | iptr es f hF hi' hes hf hc => exact .inl ⟨_, _, w, m, rfl, .inl rfl, Step.refl hr rfl (SameOut.refl w), .iptr es f hF hi' hes hf hc⟩
    · rename_i f p q hx
      cases ho
      refine ⟨_, _, rfl, .refl _, nofun, fun m a w hr ht hF => ?_⟩
      have h1 := q0x hP ht x
      rw [hx] at h1
      obtain ⟨f', u, v, h2, hf, hu, hv⟩ := h1.fn_inv
      rw [h2] at h1 ⊢
      cases hf
      exact .inl ⟨_, _, w, m, rfl, .inl rfl, Step.refl hr rfl (SameOut.refl w), h1⟩
    · rename_i f p q hx
      cases ho
      refine ⟨_, _, rfl, .refl _, nofun, fun m a w hr ht hF => ?_⟩
      have h1 := q0x hP ht x
      rw [hx] at h1
      obtain ⟨f', u, v, h2, hf, hu, hv⟩ := h1.fn_inv
      rw [h2] at h1 ⊢
      cases hf
      exact .inl ⟨_, _, w, m, rfl, .inl rfl, Step.refl hr rfl (SameOut.refl w), h1⟩
    · cases ho
  case binOp op t x y z =>
    split at ho
    · rename_i hx hy
      split at ho
      · rename_i ti hc hti
        split at ho
        case h_2 => cases ho
        rename_i ms hd
        cases ho
        refine ⟨_, _, rfl, .refl _, nofun, fun m a w hr ht hF => ?_⟩
        have h1 := q0x hP ht x
        have h2 := q0x hP ht y
        rw [hx] at h1
        rw [hy] at h2
        rw [h1.nilif_inv, h2.nilif_inv]
        exact .inl (.pureV hr ⟨_, nilif_eq hP.eq hti hd hc (.inl rfl), .bool _⟩)
      · rename_i ti hc hti
        split at ho
        case h_2 => cases ho
        rename_i ms hd
        cases ho
        refine ⟨_, _, rfl, .refl _, nofun, fun m a w hr ht hF => ?_⟩
        have h1 := q0x hP ht x
        have h2 := q0x hP ht y
        rw [hx] at h1
        rw [hy] at h2
        rw [h1.nilif_inv, h2.nilif_inv]
        exact .inl (.pureV hr ⟨_, nilif_eq hP.eq hti hd hc (.inr rfl), .bool _⟩)
      · cases ho
    · obtain ⟨y', h1, rfl⟩ := q0B ho
      exact ⟨_, _, rfl, .refl _, nofun, fun m a w hr ht hF => .inl (.pureV hr (binOpA_rel hP.eq h1 (q0x hP ht x) (q0x hP ht y)))⟩
  case unOp op t x =>
    obtain ⟨y, h1, rfl⟩ := q0B ho
    exact ⟨_, _, rfl, .refl _, nofun, fun m a w hr ht hF => .inl (.pureV hr (unOpA_rel h1 (q0x hP ht x)))⟩
  case convert p q x =>
    cases hsl : q7L (s.ev (Ctx.of P gl eqT) x) with
    | true =>
      rw [hsl, cond_true] at ho
      obtain ⟨y, h1, rfl⟩ := q0B ho
      exact ⟨_, _, rfl, .refl _, nofun, fun m a w hr ht hF => .inl (.pureV hr (convB_rel hsl h1 (q0x hP ht x) hr))⟩
    | false =>
      rw [hsl, cond_false] at ho
      obtain ⟨y, h1, rfl⟩ := q0B ho
      exact ⟨_, _, rfl, .refl _, nofun, fun m a w hr ht hF => .inl (.pureV hr (convA_rel h1 (q0x hP ht x)))⟩
  case range t x =>
    obtain ⟨y, h1, rfl⟩ := q0B ho
    exact ⟨_, _, rfl, rangeA_le h1, nofun, fun m a w hr ht hF => .inl (.ofV (rangeA_rel h1 (q0x hP ht x) hr hF))⟩
  case next x str =>
    cases str with
    | true =>
      rw [cond_true] at ho
      obtain ⟨y, h1, rfl⟩ := q0B ho
      refine ⟨_, _, rfl, nextA_le h1, nofun, fun m a w hr ht hF => .inl (.ofV ?_)⟩
      obtain ⟨cv, w', q1, q2, q3⟩ := nextA_rel (ty := o.type) h1 (q0x hP ht x) hr
      exact ⟨cv, w', m, q1, q2, q3⟩
    | false =>
      rw [cond_false] at ho
      obtain ⟨y, h1, rfl⟩ := q0B ho
      refine ⟨_, _, rfl, nextM_le h1, nofun, fun m a w hr ht hF => .inl (.ofV ?_)⟩
      obtain ⟨cv, w', q1, q2, q3⟩ := nextM_rel (ty := o.type) h1 (q0x hP ht x) hr
      exact ⟨cv, w', m, q1, q2, q3⟩
  case entry x =>
    obtain ⟨y, h1, rfl⟩ := q0B ho
    exact ⟨_, _, rfl, .refl _, nofun, fun m a w hr ht hF => .inl (.pureV hr (entryM_rel h1 (q0x hP ht x) hr))⟩
  case mapEntry t x k =>
    obtain ⟨y, h1, rfl⟩ := q0B ho
    refine ⟨_, _, rfl, mapEntryA_le h1, nofun, fun m a w hr ht hF => .inl (.ofV ?_)⟩
    obtain ⟨cv, w', q1, q2, q3⟩ := mapEntryA_rel hP.eq h1 (q0x hP ht x) (q0x hP ht k) hr
    exact ⟨cv, w', m, q1, q2, q3⟩
  case entryStore t x st y =>
    obtain ⟨y', h1, rfl⟩ := q0B ho
    exact ⟨_, _, rfl, entryStoreA_le h1, nofun, fun m a w hr ht hF => .inl (.ofU (entryStoreA_rel h1 (q0x hP ht x) (q0x hP ht st) (q0x hP ht y) hr))⟩
  case defer c => exact absurd hop (hnd c)
  case makeInterface t x =>
    split at ho
    case h_2 => cases ho
    rename_i ti hti
    split at ho
    · cases ho
    rename_i hd
    cases ho
    refine ⟨_, _, rfl, .refl _, nofun, fun m a w hr ht hF => .inl (.pureV hr ⟨.iface t (a.eval x), ?_, .iface t (q0x hP ht x)⟩)⟩
    have hu := q1q hti
    unfold Instr.makeInterface
    rw [Sem.run_bind, run_underlying hu]
    simp only [Result.andThen]
    rfl
  case makeFunc f p q =>
    split at ho
    case h_2 => cases ho
    rename_i g
    cases ho
    refine ⟨_, _, rfl, .refl _, nofun, fun m a w hr ht hF => .inl (.pureV hr ⟨_, rfl, ?_⟩)⟩
    have h1 := q7R (C := Ctx.of P gl eqT) (q0x hP ht) p
    have h2 := q7R (C := Ctx.of P gl eqT) (q0x hP ht) q
    exact .fn (.func g) (by have := h1.len; simpa using this) (fun i x y hx hy => h1.at' i x y hx (by simpa using hy)) (by have := h2.len; simpa using this) (fun i x y hx hy => h2.at' i x y hx (by simpa using hy))
  case makeMap t rs =>
    split at ho
    case h_2 => cases ho
    rename_i n0 ti hn0 hti
    split at ho
    case h_2 => cases ho
    rename_i kt0 et0 hd0
    cases ho
    refine ⟨_, _, rfl, .new _ _, nofun, fun m a w hr ht hF => .inl (.ofV ⟨_, _, _, makeMap_run hti hd0 (fun v hv => by
      cases rs with
      | none => cases hv
      | some x =>
        have hv' : a.eval x = v := Option.some.inj hv
        subst hv'
        have hx := q0x hP ht x
        revert hn0
        cases hxv : s.ev (Ctx.of P gl eqT) x with
        | int k n => rw [hxv] at hx; intro _; exact ⟨k, n, hx.int_inv⟩
        | _ => intro hn0; simp only [hxv] at hn0; cases hn0), Step.alloc hr (hF _ (Nat.le_refl _) (Nat.lt_succ_self _)) (z := 0) rfl ⟨rfl, rfl, rfl⟩ ⟨#[], rfl, rfl, fun i x y h _ => by simp at h⟩, .map (Loc.put_same _ _ _ _)⟩)⟩
  case makeSlice t l c =>
    obtain ⟨y, h1, rfl⟩ := q0B ho
    exact ⟨_, _, rfl, makeSlice_le h1, nofun, fun m a w hr ht hF => .inl (.ofV (makeSlice_rel h1 (q0x hP ht l) (q0x hP ht c) hr hF))⟩
  case slice t x lo hi mx =>
    obtain ⟨y, h1, rfl⟩ := q0B ho
    exact ⟨_, _, rfl, .refl _, nofun, fun m a w hr ht hF => .inl (.pureV hr (sliceOf_rel h1 (q0x hP ht x) (OVRel.map (q0x hP ht) lo) (OVRel.map (q0x hP ht) hi) (OVRel.map (q0x hP ht) mx) hr))⟩
  case fieldAddr t x k =>
    obtain ⟨y, h1, rfl⟩ := q0B ho
    exact ⟨_, _, rfl, .refl _, nofun, fun m a w hr ht hF => .inl (.pureV hr (fieldAt_rel h1 (q0x hP ht x)))⟩
  case field t x k =>
    obtain ⟨y, h1, rfl⟩ := q0B ho
    exact ⟨_, _, rfl, .refl _, nofun, fun m a w hr ht hF => .inl (.pureV hr (fieldOf_rel h1 (q0x hP ht x)))⟩
  case indexAddr t x i =>
    obtain ⟨y, h1, rfl⟩ := q0B ho
    exact ⟨_, _, rfl, .refl _, nofun, fun m a w hr ht hF => .inl (.pureV hr (indexAt_rel h1 (q0x hP ht x) (q0x hP ht i)))⟩
  case index t x i =>
    obtain ⟨y, h1, rfl⟩ := q0B ho
    exact ⟨_, _, rfl, .refl _, nofun, fun m a w hr ht hF => .inl (.pureV hr (indexOf_rel h1 (q0x hP ht x) (q0x hP ht i)))⟩
  case lookup t x k ok =>
    obtain ⟨y, h1, rfl⟩ := q0B ho
    exact ⟨_, _, rfl, .refl _, nofun, fun m a w hr ht hF => .inl (.pureV hr (lookupA_rel hP.eq h1 (q0x hP ht x) (q0x hP ht k) hr))⟩
  case mapUpdate t x k y =>
    obtain ⟨y', h1, rfl⟩ := q0B ho
    exact ⟨_, _, rfl, mapPut_le h1, nofun, fun m a w hr ht hF => .inl (.ofU (mapPut_rel hP.eq h1 (q0x hP ht x) (q0x hP ht k) (q0x hP ht y) hr))⟩
  case insert t x k y =>
    obtain ⟨y', h1, rfl⟩ := q0B ho
    exact ⟨_, _, rfl, mapPut_le h1, nofun, fun m a w hr ht hF => .inl (.ofU (mapPut_rel hP.eq h1 (q0x hP ht x) (q0x hP ht k) (q0x hP ht y) hr))⟩
  case typeAssert x xt t ok =>
    obtain ⟨y, h1, rfl⟩ := q0B ho
    exact ⟨_, _, rfl, .refl _, nofun, fun m a w hr ht hF => .inl (.pureV hr (typeAssertA_rel h1 (q0x hP ht x)))⟩
  case extract x i =>
    split at ho
    case h_2 => cases ho
    rename_i vs hx
    obtain ⟨y, h1, rfl⟩ := q0B ho
    refine ⟨_, _, rfl, .refl _, nofun, fun m a w hr ht hF => ?_⟩
    have h2 := q0x hP ht x
    rw [hx] at h2
    obtain ⟨c, h3, h4⟩ := LRel.of_tup h2
    rw [h3]
    obtain ⟨cv, h5, h6⟩ := h4.get h1
    rw [Array.getElem?_toList] at h5
    exact .inl (.pureV hr ⟨cv, by simp [Instr.extract, h5], h6⟩)
  case call c =>
    unfold resolve
    cases hcal : c.callee with
    | value f =>
      simp only [hcal] at ho ⊢
      obtain ⟨v, h', rfl, h1, h2⟩ := applyF_rel hP hih ho
      exact ⟨v, h', rfl, h1, nofun, fun m a w hr ht hF => h2 m w _ _ hr (q0x hP ht f) (q7R (q0x hP ht) c.args) hF⟩
    | invoke rc name =>
      simp only [hcal] at ho ⊢
      split at ho
      case h_2 => cases ho
      rename_i t x hx
      split at ho
      case h_2 => cases ho
      rename_i f hm
      obtain ⟨v, h', rfl, h1, h2⟩ := invoke_rel hP hih hm ho
      refine ⟨v, h', rfl, h1, nofun, fun m a w hr ht hF => ?_⟩
      have h3 := q0x hP ht rc
      rw [hx] at h3
      obtain ⟨y, h4, h5⟩ := h3.iface_inv
      rw [h4]
      exact h2 m w y _ hr h5 (q7R (q0x hP ht) c.args) hF
    | builtin b =>
      simp only [hcal] at ho ⊢
      have key := builtinA_val ho
      obtain ⟨v, h', rfl⟩ := key
      refine ⟨v, h', rfl, builtinA_le ho, nofun, fun m a w hr ht hF => ?_⟩
      obtain ⟨v2, h2, h3, h4⟩ := builtinA_rel hP.eq (ty := o.type) (cn := c.args.map fun | .const _ => true | _ => false) ho (q7R (q0x hP ht) c.args) hr (fun h'' ⟨v'', e⟩ => by cases e; exact hF)
      cases h3
      exact .inl h4
  all_goals cases ho
end
end Go.Ax
namespace Go.Ax
section
variable {P : Program} {F : Nat → Option Obj} {gl : Nat → AV} {eqT : Knob} {m : Loc}
theorem Post.after {h h1 : Hp} {w w1 : World} {m1 : Loc} {s' : St} {e : Ex} {x : Exit} {a : Act} {w' : World} (hs : Step P F m h h1 w w1 m1) (hp : Post P F m1 h1 s' w1 e x a w') : Post P F m h s' w e x a w' := by
 obtain ⟨m', h1, h2, h3⟩ := hp
 exact ⟨m', h1, hs.trans h2, h3⟩
theorem putD_st {s s' : St} {d : Option Nat} {v : AV} {h : Hp} (hp : putD s d v h = some s') : s'.h = h ∧ s'.rd = s.rd ∧ s'.n = s.n ∧ s'.ds = s.ds := by
 unfold putD at hp
 split at hp
 ·cases hp; exact ⟨rfl, rfl, rfl, rfl⟩
 ·obtain ⟨_, rfl⟩ := q0l hp; exact ⟨rfl, rfl, rfl, rfl⟩
theorem undef_rel (m : Loc) : VRel P F m (.tup []) Go.undef := LRel.tup .nil
theorem q7r {α : Type} {l : List α} {i : Nat} {x : α} {r : List α} (h : l.drop i = x :: r) : l[i]? = some x ∧ l.drop (i + 1) = r := by
 constructor
 ·have := congrArg (·[0]?) h
  simpa using this
 ·have := congrArg (·.drop 1) h
  simpa [List.drop_drop, Nat.add_comm] using this
def wpLoop (fe : Fence) (n : Nat) (P : Program) (it : Item) (c : Code) (Q : Exit → Act → World → Prop) (a : Act) (w : World) : Prop :=
 ∀ (b : Frame) (k : List Item) (cs : List Frame), b.roundOf = fe.round → fe.fn b.fn → fe.room (cs.length + 1 + n) →
  ∃ e a' w', Q e a' w' ∧ ArrivesIn (Machine.fenced P fe) P (lone (b.atR a (.code c :: it :: k)) cs w) b k cs e a' w'
variable {fe : Fence} {n : Nat} {Q : Exit → Act → World → Prop} {a : Act} {w : World}
theorem wpLoop_loop {c : Code} (h : wpLoop fe n P (.inLoop c) c Q a w) : (Code.loop c).wpIn fe n P Q a w := fun b k cs hro hb hr =>
 let ⟨e, a', w', q, r⟩ := h b k cs hro hb hr
 ⟨e, a', w', q, .of_steps (.one (fenced_calm hb hr rfl) stepR_loop) r⟩
theorem wpLoop_step {c : Code} (h : c.wpIn fe n P (Exit.then (wpLoop fe n P (.inLoop c) c Q) Q) a w) : wpLoop fe n P (.inLoop c) c Q a w := by
  intro b k cs hro hb hr
  obtain ⟨e, a₁, w₁, hq, harr⟩ := h b (.inLoop c :: k) cs hro hb hr
  cases e with
  | normal =>
    obtain ⟨e₂, a₂, w₂, hq₂, harr₂⟩ := hq b k cs hro hb hr
    exact ⟨e₂, a₂, w₂, hq₂, .of_steps (StepsIn.trans harr (.one (fenced_calm hb hr rfl) stepR_inLoop)) harr₂⟩
  | exit id => exact ⟨_, a₁, w₁, hq, .pass (x := .inLoop c) rfl (fun _ _ => .inl (by simp)) harr⟩
  | goto l => exact ⟨_, a₁, w₁, hq, .pass (x := .inLoop c) rfl (fun _ _ => .inl (by simp)) harr⟩
  | ret => exact ⟨_, a₁, w₁, hq, .pass (x := .inLoop c) rfl (fun _ _ => .inl (by simp)) harr⟩
  | panic ch => exact ⟨_, a₁, w₁, hq, .pass (x := .inLoop c) rfl (fun _ _ => .inl (by simp)) harr⟩
  | outgrown => exact ⟨_, a₁, w₁, hq, .pass (x := .inLoop c) rfl (fun _ _ => .inl (by simp)) harr⟩
end
end Go.Ax
namespace Go.Ax
section
variable {P : Program} {F : Nat → Option Obj} {gl : Nat → AV} {eqT : Knob} {m : Loc}
theorem run_endLoop {w : World} {b : Nat} {r : Loop} (h : w.heap[b]? = some (.loop r)) (hs : r.state ≠ .busy) :
  (Instr.endLoop b).run P w = .ok r.pending { w with heap := w.heap.setIfInBounds b (.loop { r with state := .exhausted }) } := by
 unfold Instr.endLoop
 rw [Sem.run_bind, q7T h]
 have hb : (r.state == LoopState.busy) = false := by cases hst : r.state <;> first | rfl | exact absurd hst hs
 simp only [Result.andThen, hb, Bool.false_eq_true, if_false, Sem.run_bind, Sem.run_pure]
 rw [q9D h rfl]
def DrawS (P : Program) (F : Nat → Option Obj) (C : Ctx) (ih : Code → St → Res) : Prop :=
 ∀ (ops : Array Oper) s e s', drawF P C ih ops.toList (masks [] ops.toList) s = some (e, s') → HpLe s.h s'.h ∧ s'.rd = s.rd ∧ s'.n = s.n ∧
  ∀ m a w fe k id, HRel P F m s.h w → ARel P F m s a → FenRel m s.rd fe → Free m s.h s'.h → (Code.region id ops true).wpIn fe k P (Post P F m s.h s' w e) a w
end
end Go.Ax
namespace Go.Ax
section
variable {P : Program} {C : Ctx} {ih : Code → St → Res}
theorem allA_map (C : Ctx) (s : St) : ∀ l : List Operand, allA C s l = l.map (s.ev C)
 | [] => rfl
 | x :: l => by show s.ev C x :: allA C s l = _; rw [allA_map C s l]; rfl
theorem q5s {s s' : St} {l : List Operand} (h : ∀ x ∈ l, s.ev C x = s'.ev C x) : allA C s l = allA C s' l := by
 rw [allA_map, allA_map]; exact List.map_congr_left h
theorem parts_congr {s s' : St} {ps : Array (Nat × Operand)} (h : ∀ x ∈ (ps.toList.map (·.2)).toArray, s.ev C x = s'.ev C x) : (ps.toList.map fun p => (p.1, s.ev C p.2)) = ps.toList.map fun p => (p.1, s'.ev C p.2) :=
 List.map_congr_left fun p hp => by rw [h p.2 (by simp only [List.mem_toArray]; exact List.mem_map_of_mem hp)]
theorem z1v {s s' : St} {o : Option Operand} (h : ∀ x, o = some x → s.ev C x = s'.ev C x) : o.map (s.ev C) = o.map (s'.ev C) := by
 cases o with
 | none => rfl
 | some x => simp [h x rfl]
theorem q6u {s s' : St} {o : Oper} (hh : s.h = s'.h) (hev : ∀ x ∈ o.op.operands, s.ev C x = s'.ev C x) : opA P C ih s o = opA P C ih s' o := by
  unfold opA
  cases hop : o.op <;> rw [hop] at hev <;> simp only [Op.operands] at hev
  case build t ps => simp only [parts_congr hev, hh]
  case buildSlice t n ps => simp only [parts_congr hev, hh]
  case makeFunc f p q =>
    have h1 : allA C s p.toList = allA C s' p.toList := q5s fun x hx => hev x (by simp at hx ⊢; exact .inl hx)
    have h2 : allA C s q.toList = allA C s' q.toList := q5s fun x hx => hev x (by simp at hx ⊢; exact .inr hx)
    simp only [h1, h2, hh]
  case slice t x lo hi mx =>
    have h0 : s.ev C x = s'.ev C x := hev x (by simp)
    have h1 : lo.map (s.ev C) = lo.map (s'.ev C) := z1v fun y hy => hev y (by simp [hy])
    have h2 : hi.map (s.ev C) = hi.map (s'.ev C) := z1v fun y hy => hev y (by simp [hy])
    have h3 : mx.map (s.ev C) = mx.map (s'.ev C) := z1v fun y hy => hev y (by simp [hy])
    simp only [h0, h1, h2, h3, hh]
  case call c =>
    have h1 : allA C s c.args.toList = allA C s' c.args.toList := q5s fun x hx => hev x (by
      unfold Call.operands
      cases c.callee <;> simp at hx ⊢ <;> simp [hx])
    cases hcal : c.callee with
    | value f =>
      have h2 : s.ev C f = s'.ev C f := hev f (by unfold Call.operands; rw [hcal]; simp)
      simp only [hcal, h1, h2, hh]
    | invoke r name =>
      have h2 : s.ev C r = s'.ev C r := hev r (by unfold Call.operands; rw [hcal]; simp)
      simp only [hcal, h1, h2, hh]
    | builtin b => simp only [hcal, h1, hh]
  case defer c =>
    have h1 : allA C s c.args.toList = allA C s' c.args.toList := q5s fun x hx => hev x (by
      unfold Call.operands
      cases c.callee <;> simp at hx ⊢ <;> simp [hx])
    cases hcal : c.callee with
    | value f =>
      have h2 : s.ev C f = s'.ev C f := hev f (by unfold Call.operands; rw [hcal]; simp)
      simp only [hcal, h1, h2]
    | invoke r name => simp only [hcal]
    | builtin b => cases b <;> simp only [hcal, h1]
  case makeMap t rs =>
    cases rs with
    | none => simp only [hh]
    | some x => have h2 : s.ev C x = s'.ev C x := hev x (by simp); simp only [h2, hh]
  all_goals first | (simp at hev; simp only [hev, hh]; done)
structure Loc2 (h h' g g' : Hp) (wr : List Nat) : Prop where
 nx : g'.nx = h'.nx
 inn : ∀ r, (r ∈ wr ∨ (h.nx ≤ r ∧ r < h'.nx)) → g'.get r = h'.get r
 out : ∀ r, r ∉ wr → ¬ (h.nx ≤ r ∧ r < h'.nx) → g'.get r = g.get r ∧ h'.get r = h.get r
variable {h h' g : Hp}
theorem Loc2.same {wr : List Nat} (hnx : g.nx = h.nx) (hw : ∀ r ∈ wr, g.get r = h.get r) : Loc2 h h g g wr :=
 ⟨hnx, fun r hr => by rcases hr with hr | ⟨h1, h2⟩; exact hw r hr; omega, fun _ _ _ => ⟨rfl, rfl⟩⟩
theorem Loc2.mk_new {wr : List Nat} (hnx : g.nx = h.nx) (hw : ∀ r ∈ wr, g.get r = h.get r) (o : AObj) : Loc2 h (h.new o) g (g.new o) wr := by
 refine ⟨by simp [Hp.nx_new, hnx], fun r hr => ?_, fun r _ h2 => ?_⟩
 ·rw [Hp.get_new, Hp.get_new, hnx]
  by_cases e : h.nx = r
  ·rw [if_pos e, if_pos e]
  ·rw [if_neg e, if_neg e]
   rcases hr with hr | ⟨h1, h2⟩
   ·exact hw r hr
   ·rw [Hp.nx_new] at h2; omega
 ·rw [Hp.get_new, Hp.get_new, hnx]
  have e : ¬ h.nx = r := fun e => h2 ⟨by omega, by rw [Hp.nx_new]; omega⟩
  rw [if_neg e, if_neg e]; exact ⟨rfl, rfl⟩
theorem Loc2.mk_put {wr : List Nat} (hnx : g.nx = h.nx) (hw : ∀ r ∈ wr, g.get r = h.get r) {r : Nat} (hr : r ∈ wr) (o : AObj) : Loc2 h (h.put r o) g (g.put r o) wr := by
 refine ⟨hnx, fun s hs => ?_, fun s h1 _ => ?_⟩
 ·rw [Hp.get_put, Hp.get_put]
  by_cases e : r = s
  ·rw [if_pos e, if_pos e]
  ·rw [if_neg e, if_neg e]
   rcases hs with hs | ⟨h1, h2⟩
   ·exact hw s hs
   ·rw [Hp.nx_put] at h2; omega
 ·have e : ¬ r = s := fun e => h1 (e ▸ hr)
  rw [Hp.get_put, Hp.get_put, if_neg e, if_neg e]; exact ⟨rfl, rfl⟩
theorem Loc2.mk_putNew {wr : List Nat} (hnx : g.nx = h.nx) (hw : ∀ r ∈ wr, g.get r = h.get r) {r : Nat} (hr : r ∈ wr) (o q : AObj) : Loc2 h ((h.put r o).new q) g ((g.put r o).new q) wr := by
 have h1 := Loc2.mk_put hnx hw hr o
 have h2 := Loc2.mk_new (h := h.put r o) (g := g.put r o) (wr := wr) h1.nx (fun s hs => h1.inn s (.inl hs)) q
 refine ⟨h2.nx, fun s hs => h2.inn s hs, fun s h3 h4 => ?_⟩
 obtain ⟨a1, a2⟩ := h2.out s h3 h4
 obtain ⟨b1, b2⟩ := h1.out s h3 (by rw [Hp.nx_put]; omega)
 exact ⟨a1.trans b1, a2.trans b2⟩
theorem q9G {t : TypeId} {p : AV} (hg : ∀ r ∈ q0v p, g.get r = h.get r) : loadAt C t p g = loadAt C t p h := by
 unfold loadAt
 cases C.ti t with
 | none => rfl
 | some ti => cases p <;> first | rfl | (simp only [hg _ (List.mem_singleton.2 rfl)])
theorem storeAt_loc {t : TypeId} {p v : AV} (hs : storeAt C t p v h = some h') (hnx : g.nx = h.nx) (hg : ∀ r ∈ q0v p, g.get r = h.get r) : ∃ g', storeAt C t p v g = some g' ∧ Loc2 h h' g g' (q0v p) := by
 unfold storeAt at hs ⊢
 split at hs
 case h_2 => cases hs
 rename_i ti vs r o h1 h2
 have hgr := hg r (List.mem_singleton.2 rfl)
 simp only [hgr]
 split at hs
 case h_2 => cases hs
 rename_i e cs hc
 obtain ⟨hb, rfl⟩ := q0l hs
 simp only [hb, cond_true]
 exact ⟨_, rfl, Loc2.mk_put hnx hg (List.mem_singleton.2 rfl) _⟩
theorem alloc_loc {t : TypeId} {v : AV} (ha : alloc C t h = some (v, h')) (hnx : g.nx = h.nx) : ∃ g', alloc C t g = some (v, g') ∧ Loc2 h h' g g' [] := by
 unfold alloc at ha ⊢
 split at ha
 ·rename_i ti ht
  obtain ⟨hb, he⟩ := q0l ha
  cases he
  simp only [hb, cond_true, hnx]
  exact ⟨_, rfl, Loc2.mk_new hnx (fun r hr => by cases hr) _⟩
 ·cases ha
theorem box_loc {t : TypeId} {x v : AV} (ha : box t x h = some (v, h')) (hnx : g.nx = h.nx) : ∃ g', box t x g = some (v, g') ∧ Loc2 h h' g g' [] := by
 unfold box at ha ⊢
 split at ha
 ·cases ha
  simp only [hnx]
  exact ⟨_, rfl, Loc2.mk_new hnx (fun r hr => by cases hr) _⟩
 ·cases ha
theorem buildSlice_loc {t : TypeId} {n : Nat} {ps : List (Nat × AV)} {v : AV} (ha : buildSlice C t n ps h = some (v, h')) (hnx : g.nx = h.nx) : ∃ g', buildSlice C t n ps g = some (v, g') ∧ Loc2 h h' g g' [] := by
  unfold buildSlice at ha ⊢
  split at ha
  case h_2 => cases ha
  split at ha
  case h_2 => cases ha
  rename_i x hx
  cases hc : (x.zeroOk && Nat.ble (Nat.mul n x.size) 1000000) with
  | false => rw [hc] at ha; cases ha
  | true =>
    rw [hc] at ha
    simp only [cond_true] at ha
    split at ha
    · rename_i l hl
      cases ha
      refine ⟨_, ?_, Loc2.mk_new hnx (fun r hr => by cases hr) _⟩
      simp only [cond_true, hnx]
    · cases ha
theorem makeSlice_loc {t : TypeId} {l c v : AV} (ha : makeSlice C t l c h = some (v, h')) (hnx : g.nx = h.nx) : ∃ g', makeSlice C t l c g = some (v, g') ∧ Loc2 h h' g g' [] := by
 unfold makeSlice at ha; cases ha
theorem sliceOf_loc {t : TypeId} {x : AV} {lo hi mx : Option AV} (hg : ∀ r ∈ q0v x, g.get r = h.get r) : q5M C t x lo hi mx g = q5M C t x lo hi mx h := by
  unfold q5M
  cases C.ti t with
  | none => rfl
  | some ti =>
    obtain ⟨d, _, _, _, _, _, _, _⟩ := ti
    cases d <;> cases x <;> first | rfl | (simp only [hg _ (List.mem_singleton.2 rfl)])
theorem lookupA_loc {t : TypeId} {x k : AV} {ok : Bool} (hg : ∀ r ∈ q0v x, g.get r = h.get r) : q7K C t x k ok g = q7K C t x k ok h := rfl
theorem lenOfA_loc {t : TypeId} {x : AV} (hg : ∀ r ∈ q0v x, g.get r = h.get r) : q3k C t x g = q3k C t x h := by
  unfold q3k
  cases C.ti t with
  | none => rfl
  | some ti =>
    obtain ⟨d, _, _, _, _, _, _, _⟩ := ti
    cases d <;> cases x <;> first | rfl | (simp only [hg _ (List.mem_singleton.2 rfl)])
theorem mapPut_loc {t : TypeId} {x k v : AV} (ha : z1e C t x k v h = some h') (hnx : g.nx = h.nx) (hg : ∀ r ∈ q0v x, g.get r = h.get r) : ∃ g', z1e C t x k v g = some g' ∧ Loc2 h h' g g' (q0v x) := by
 unfold z1e at ha; cases ha
theorem mapDel_loc {t : TypeId} {x k : AV} (ha : mapDel C t x k h = some h') (hnx : g.nx = h.nx) (hg : ∀ r ∈ q0v x, g.get r = h.get r) : ∃ g', mapDel C t x k g = some g' ∧ Loc2 h h' g g' (q0v x) := by
 unfold mapDel at ha; cases ha
theorem srcCells_loc {es k : Nat} {x : AV} (hg : ∀ r ∈ q0v x, g.get r = h.get r) : q1e g es k x = q1e h es k x := by
 unfold q1e
 cases x <;> first | rfl | (simp only [hg _ (List.mem_singleton.2 rfl)])
theorem copyA_loc {dt : TypeId} {d x v : AV} (ha : copyA C dt d x h = some (v, h')) (hnx : g.nx = h.nx) (hd : ∀ r ∈ q0v d, g.get r = h.get r) (hx : ∀ r ∈ q0v x, g.get r = h.get r) : ∃ g', copyA C dt d x g = some (v, g') ∧ Loc2 h h' g g' (q0v d) := by
 unfold copyA at ha; cases ha
theorem convS_loc {a b : TypeId} {x : AV} (hg : ∀ r ∈ q0v x, g.get r = h.get r) : convS C a b x g = convS C a b x h := rfl
theorem convB_loc {a b : TypeId} {x : AV} (hg : ∀ r ∈ q0v x, g.get r = h.get r) : convB C a b x g = convB C a b x h := rfl
theorem rangeA_loc {t : TypeId} {x v : AV} (ha : rangeA C t x h = some (v, h')) (hnx : g.nx = h.nx) (hg : ∀ r ∈ q0v x, g.get r = h.get r) : ∃ g', rangeA C t x g = some (v, g') ∧ Loc2 h h' g g' [] := by
 unfold rangeA at ha; cases ha
theorem nextA_loc {x v : AV} (ha : nextA x h = some (v, h')) (hnx : g.nx = h.nx) (hg : ∀ r ∈ q0v x, g.get r = h.get r) : ∃ g', nextA x g = some (v, g') ∧ Loc2 h h' g g' (q0v x) := by
 unfold nextA at ha; cases ha
theorem mapEntryA_loc {t : TypeId} {x k v : AV} (ha : q5B C t x k h = some (v, h')) (hnx : g.nx = h.nx) (hg : ∀ r ∈ q0v x, g.get r = h.get r) : ∃ g', q5B C t x k g = some (v, g') ∧ Loc2 h h' g g' (q0v x) := by
 unfold q5B at ha; cases ha
theorem entryStoreA_loc {x st v : AV} (ha : q3m x st v h = some h') (hnx : g.nx = h.nx) (hg : ∀ r ∈ q0v x, g.get r = h.get r) : ∃ g', q3m x st v g = some g' ∧ Loc2 h h' g g' (q0v x) := by
 unfold q3m at ha; cases ha
end
end Go.Ax
namespace Go.Ax
section
variable {P : Program} {C : Ctx} {ih : Code → St → Res} {h h' g : Hp}
theorem appendA_loc {st xt : TypeId} {s x v : AV} (ha : q0S C st xt s x h = some (v, h')) (hnx : g.nx = h.nx) (hs : ∀ r ∈ q0v s, g.get r = h.get r) (hx : ∀ r ∈ q0v x, g.get r = h.get r) :
    ∃ g', q0S C st xt s x g = some (v, g') ∧ Loc2 h h' g g' (q0v s) := by
  unfold q0S at ha ⊢
  split at ha
  case h_2 => cases ha
  rename_i e size isAgg zero zeroOk bytes comparable zv xi k hst hxt hk
  split at ha
  · cases ha
  · cases ha
  rename_i y hy hsrc
  rw [← srcCells_loc hx] at ha
  split at ha
  · cases ha
  rename_i new hnew
  cases hc : (new.all q0P && (Nat.ble y.bytes 1000000 && Nat.beq new.length (Nat.mul k y.size))) with
  | false => rw [hc] at ha; cases ha
  | true =>
  rw [hc] at ha
  simp only [cond_true] at ha
  simp only [cond_true]
  split at ha
  · cases hk : Nat.beq k 0 with
    | true => rw [hk] at ha; cases ha; exact ⟨_, rfl, Loc2.same hnx hs⟩
    | false =>
      rw [hk] at ha
      simp only [cond_false] at ha ⊢
      obtain ⟨hb, he⟩ := q0l ha; cases he
      simp only [hb, cond_true, hnx]
      exact ⟨_, rfl, Loc2.mk_new hnx hs _⟩
  · rename_i r o len cap es ex
    have hmem : r ∈ q0v (.sl r o len cap es ex) := List.mem_singleton.2 rfl
    rw [← hs r hmem] at ha
    split at ha
    case h_2 => cases ha
    rename_i e' cs hg
    cases hc2 : (Nat.beq es y.size && (Nat.ble (Nat.add o (Nat.mul len es)) cs.length && Nat.ble (Nat.add len k) 1000000)) with
    | false => rw [hc2] at ha; cases ha
    | true =>
    rw [hc2] at ha
    simp only [cond_true] at ha
    simp only [cond_true]
    cases hin : Nat.ble (Nat.add len k) cap with
    | true =>
      rw [hin] at ha
      obtain ⟨hb, he⟩ := q0l ha; cases he
      simp only [cond_true, hb]
      exact ⟨_, rfl, Loc2.mk_put hnx hs hmem _⟩
    | false =>
      rw [hin] at ha
      simp only [cond_false] at ha ⊢
      cases hz : y.zeroOk with
      | false => rw [hz] at ha; cases ha
      | true =>
        rw [hz] at ha
        simp only [Bool.not_true, cond_false] at ha ⊢
        cases ex with
        | true =>
          simp only [cond_true] at ha ⊢
          cases ha
          simp only [hnx]
          exact ⟨_, rfl, Loc2.mk_new hnx hs _⟩
        | false =>
          simp only [cond_false] at ha ⊢
          cases ho : (Nat.beq o 0 && Nat.ble (Nat.mul len es) cs.length) with
          | false => rw [ho] at ha; cases ha
          | true =>
            rw [ho] at ha
            obtain ⟨hb, he⟩ := q0l ha
            cases he
            simp only [cond_true, hb, hnx]
            exact ⟨_, rfl, Loc2.mk_putNew hnx hs hmem _ _⟩
  · cases ha
theorem builtinA_loc {b : Builtin} {ts : List TypeId} {args : List AV} {v : AV} {rd wr : List Nat} (hf : (match b, args with
      | .len, x :: _ => some (q0v x, [])
      | .append, x :: y :: _ => some (q0v x ++ q0v y, q0v x)
      | .copy, x :: y :: _ => some (q0v x ++ q0v y, q0v x)
      | .unsafeSliceData, _ => some ([], [])
      | .unsafeString, x :: _ => some (q0v x, q0v x)
      | .delete, x :: _ => some (q0v x, q0v x)
      | .complex, _ => some ([], [])
      | .real, _ => some ([], [])
      | .imag, _ => some ([], [])
      | .min, _ => some ([], [])
      | .max, _ => some ([], [])
      | _, _ => none : Option (List Nat × List Nat)) = some (rd, wr))
    (ha : q2R C b ts args h = some (.val v h')) (hnx : g.nx = h.nx) (hg : ∀ r ∈ rd, g.get r = h.get r) :
    ∃ g', q2R C b ts args g = some (.val v g') ∧ Loc2 h h' g g' wr ∧ ∀ r ∈ wr, r ∈ rd := by
  unfold q2R at ha ⊢
  split at ha
  · cases hf
    rw [← lenOfA_loc hg] at ha
    split at ha
    · cases ha; exact ⟨_, rfl, Loc2.same hnx (fun r hr => by cases hr), fun r hr => by cases hr⟩
    · cases ha
  · cases hf
    split at ha
    · rename_i hv
      cases ha
      obtain ⟨g', e1, e2⟩ := appendA_loc hv hnx (fun r hr => hg r (List.mem_append_left _ hr)) (fun r hr => hg r (List.mem_append_right _ hr))
      simp only [e1]
      exact ⟨_, rfl, e2, fun r hr => List.mem_append_left _ hr⟩
    · cases ha
  · cases hf
    split at ha
    · rename_i hv
      cases ha
      obtain ⟨g', e1, e2⟩ := copyA_loc hv hnx (fun r hr => hg r (List.mem_append_left _ hr)) (fun r hr => hg r (List.mem_append_right _ hr))
      simp only [e1]
      exact ⟨_, rfl, e2, fun r hr => List.mem_append_left _ hr⟩
    · cases ha
  · cases hf
    split at ha
    · rename_i hv
      cases ha
      obtain ⟨g', e1, e2⟩ := mapDel_loc hv hnx hg
      simp only [e1]
      exact ⟨_, rfl, e2, fun r hr => hr⟩
    · cases ha
  · cases hf
    cases ha
    exact ⟨_, rfl, Loc2.same hnx (fun r hr => by cases hr), fun r hr => by cases hr⟩
  · cases hf
    cases ha
    exact ⟨_, rfl, Loc2.same hnx (fun r hr => by cases hr), fun r hr => by cases hr⟩
  · cases hf
    cases ha
    exact ⟨_, rfl, Loc2.same hnx (fun r hr => by cases hr), fun r hr => by cases hr⟩
  · cases hf
  · cases hf
    cases ha
    exact ⟨_, rfl, Loc2.same hnx (fun r hr => by cases hr), fun r hr => by cases hr⟩
  · cases hf
    rename_i r o len cap es ex
    cases hz : Nat.beq cap 0 with
    | true => rw [hz] at ha; cases ha
    | false =>
      rw [hz] at ha; cases ha
      exact ⟨_, rfl, Loc2.same hnx (fun r hr => by cases hr), fun r hr => by cases hr⟩
  · cases hf
    split at ha
    · cases ha
      exact ⟨_, rfl, Loc2.same hnx (fun r hr => by cases hr), fun r hr => by cases hr⟩
    · cases ha
  · cases hf
    rename_i t tu r n
    have hgr : g.get r = h.get r := hg r List.mem_cons_self
    split at ha
    case h_2 => cases ha
    rename_i hti hgh
    rw [← hgr] at hgh
    rw [hti, hgh]
    dsimp only
    split at ha
    case h_2 => cases ha
    split at ha
    case h_2 => cases ha
    obtain ⟨hb, he⟩ := q0l ha
    rw [hb, cond_true]
    cases hz : Nat.beq n 0 with
    | true =>
      rw [hz] at he; cases he
      exact ⟨_, rfl, Loc2.same hnx (fun q hq => by rw [List.mem_singleton.1 hq]; exact hgr), fun q hq => hq⟩
    | false =>
      rw [hz] at he; cases he
      exact ⟨_, rfl, Loc2.mk_put hnx (fun q hq => by rw [List.mem_singleton.1 hq]; exact hgr) (List.mem_singleton.2 rfl) _, fun q hq => hq⟩
  · cases hf
    obtain ⟨hb, he⟩ := q0l ha; cases he
    simp only [hb, cond_true]
    exact ⟨_, rfl, Loc2.same hnx (fun r hr => by cases hr), fun r hr => by cases hr⟩
  · cases hf
    obtain ⟨hb, he⟩ := q0l ha; cases he
    simp only [hb, cond_true]
    exact ⟨_, rfl, Loc2.same hnx (fun r hr => by cases hr), fun r hr => by cases hr⟩
  · cases hf
    obtain ⟨hb, he⟩ := q0l ha; cases he
    simp only [hb, cond_true]
    exact ⟨_, rfl, Loc2.same hnx (fun r hr => by cases hr), fun r hr => by cases hr⟩
  · cases ha
theorem opA_loc {s s' : St} {o : Oper} {v : AV} {rd wr : List Nat} (hf : fpOf C s o = some (rd, wr)) (ho : opA P C ih s o = some (.val v h')) (hev : ∀ x ∈ o.op.operands, s.ev C x = s'.ev C x) (hnx : s'.h.nx = s.h.nx) (hg : ∀ r ∈ rd, s'.h.get r = s.h.get r) :
    ∃ g', opA P C ih s' o = some (.val v g') ∧ Loc2 s.h h' s'.h g' wr ∧ ∀ r ∈ wr, r ∈ rd := by
  have e0 : opA P C ih s' o = opA P C ih { s with h := s'.h } o := q6u rfl fun x hx => by
    rw [← hev x hx]; cases x <;> rfl
  rw [e0]
  have hev' : ∀ x, ({ s with h := s'.h } : St).ev C x = s.ev C x := fun x => by cases x <;> rfl
  have hall : ∀ l, allA C ({ s with h := s'.h } : St) l = allA C s l := fun l => q5s fun x _ => hev' x
  generalize s'.h = g at hnx hg hev' hall
  unfold fpOf at hf
  unfold opA at ho ⊢
  have nil : ∀ {a : List Nat}, ∀ r ∈ ([] : List Nat), r ∈ a := fun r hr => by cases hr
  have nil' : ∀ r ∈ ([] : List Nat), g.get r = s.h.get r := fun r hr => by cases hr
  cases hop : o.op <;> simp only [hop, hev', hall] at ho hf ⊢
  case load t a =>
    cases hf
    rw [q9G hg]
    obtain ⟨y, e1, e2⟩ := q0B ho
    cases e2
    rw [e1]
    exact ⟨_, rfl, Loc2.same hnx nil', nil⟩
  case store t a x =>
    cases hf
    obtain ⟨y, e1, e2⟩ := q0B ho
    cases e2
    obtain ⟨g', e3, e4⟩ := storeAt_loc e1 hnx hg
    rw [e3]
    exact ⟨_, rfl, e4, fun r hr => hr⟩
  case slice t x lo hi mx =>
    cases hf
    have hl : ∀ o : Option Operand, o.map (({ s with h := g } : St).ev C) = o.map (s.ev C) := fun o => z1v fun y _ => hev' y
    simp only [hl]
    rw [sliceOf_loc hg]
    obtain ⟨y, e1, e2⟩ := q0B ho
    cases e2
    rw [e1]
    exact ⟨_, rfl, Loc2.same hnx nil', nil⟩
  case lookup t x k ok =>
    cases hf
    rw [lookupA_loc hg]
    obtain ⟨y, e1, e2⟩ := q0B ho
    cases e2
    rw [e1]
    exact ⟨_, rfl, Loc2.same hnx nil', nil⟩
  case mapUpdate t x k y =>
    cases hf
    obtain ⟨y', e1, e2⟩ := q0B ho
    cases e2
    obtain ⟨g', e3, e4⟩ := mapPut_loc e1 hnx hg
    rw [e3]
    exact ⟨_, rfl, e4, fun r hr => hr⟩
  case call c =>
    cases hcal : c.callee with
    | value f => simp only [hcal] at hf; cases hf
    | invoke r name => simp only [hcal] at hf; cases hf
    | builtin b =>
      simp only [hcal] at ho hf ⊢
      exact builtinA_loc hf ho hnx hg
  case range t x =>
    cases hf
    obtain ⟨y, e1, e2⟩ := q0B ho
    cases e2
    obtain ⟨g', e3, e4⟩ := rangeA_loc (g := g) e1 hnx hg
    rw [e3]
    exact ⟨_, rfl, e4, nil⟩
  case next x str =>
    cases str with
    | false => cases hf
    | true =>
    cases hf
    rw [cond_true] at ho
    obtain ⟨y, e1, e2⟩ := q0B ho
    cases e2
    obtain ⟨g', e3, e4⟩ := nextA_loc (g := g) e1 hnx hg
    simp only [cond_true]
    rw [e3]
    exact ⟨_, rfl, e4, fun r hr => hr⟩
  case entry x => cases hf
  case mapEntry t x k =>
    cases hf
    obtain ⟨y, e1, e2⟩ := q0B ho
    cases e2
    obtain ⟨g', e3, e4⟩ := mapEntryA_loc (g := g) e1 hnx hg
    rw [e3]
    exact ⟨_, rfl, e4, fun r hr => hr⟩
  case entryStore t x st y =>
    cases hf
    obtain ⟨y', e1, e2⟩ := q0B ho
    cases e2
    obtain ⟨g', e3, e4⟩ := entryStoreA_loc (g := g) e1 hnx hg
    rw [e3]
    exact ⟨_, rfl, e4, fun r hr => hr⟩
  case convert a b x =>
    cases hf
    cases hsl : q7L (s.ev C x) with
    | true =>
      rw [hsl, cond_true] at ho
      simp only [cond_true]
      rw [convB_loc hg]
      obtain ⟨y, e1, e2⟩ := q0B ho
      cases e2
      rw [e1]
      exact ⟨_, rfl, Loc2.same hnx nil', nil⟩
    | false =>
      rw [hsl, cond_false] at ho
      simp only [cond_false]
      obtain ⟨y, e1, e2⟩ := q0B ho
      cases e2
      rw [e1]
      exact ⟨_, rfl, Loc2.same hnx nil', nil⟩
  case defer c =>
    split at ho
    · unfold deferA at ho
      split at ho <;> cases ho
    · unfold deferC at ho
      split at ho <;> cases ho
    · cases ho
  case alloc t =>
    cases hf
    obtain ⟨y, e1, e2⟩ := q0B ho
    cases e2
    obtain ⟨g', e3, e4⟩ := alloc_loc (g := g) e1 hnx
    rw [e3]
    exact ⟨_, rfl, e4, nil⟩
  case box t x =>
    cases hf
    obtain ⟨y, e1, e2⟩ := q0B ho
    cases e2
    obtain ⟨g', e3, e4⟩ := box_loc (g := g) e1 hnx
    rw [e3]
    exact ⟨_, rfl, e4, nil⟩
  case buildSlice t n ps =>
    cases hf
    obtain ⟨y, e1, e2⟩ := q0B ho
    cases e2
    obtain ⟨g', e3, e4⟩ := buildSlice_loc (g := g) e1 hnx
    rw [e3]
    exact ⟨_, rfl, e4, nil⟩
  case makeSlice t l c =>
    cases hf
    obtain ⟨y, e1, e2⟩ := q0B ho
    cases e2
    obtain ⟨g', e3, e4⟩ := makeSlice_loc (g := g) e1 hnx
    rw [e3]
    exact ⟨_, rfl, e4, nil⟩
  case makeMap t r =>
    cases hf
    split at ho
    case h_2 => cases ho
    rename_i n0 ti hn0 hti
    split at ho
    case h_2 => cases ho
    cases ho
    simp only [hnx]
    exact ⟨_, rfl, Loc2.mk_new hnx nil' _, nil⟩
  case insert t x k y =>
    cases hf
    obtain ⟨y', e1, e2⟩ := q0B ho
    cases e2
    obtain ⟨g', e3, e4⟩ := mapPut_loc e1 hnx hg
    rw [e3]
    exact ⟨_, rfl, e4, fun r hr => hr⟩
  case nilCheck x =>
    cases hf
    split at ho <;> cases ho <;> exact ⟨_, rfl, Loc2.same hnx nil', nil⟩
  case binOp op t x y z =>
    cases hf
    split at ho
    · split at ho
      · split at ho <;> cases ho <;> exact ⟨_, rfl, Loc2.same hnx nil', nil⟩
      · split at ho <;> cases ho <;> exact ⟨_, rfl, Loc2.same hnx nil', nil⟩
      · cases ho
    · obtain ⟨y, e1, e2⟩ := q0B ho
      cases e2
      rw [e1]
      exact ⟨_, rfl, Loc2.same hnx nil', nil⟩
  case makeInterface t x =>
    cases hf
    split at ho
    case h_2 => cases ho
    split at ho
    · cases ho
    cases ho
    exact ⟨_, rfl, Loc2.same hnx nil', nil⟩
  case pick c a b =>
    cases hf
    split at ho
    case h_2 => cases ho
    cases ho
    exact ⟨_, rfl, Loc2.same hnx nil', nil⟩
  case makeFunc f a b =>
    cases hf
    split at ho
    case h_2 => cases ho
    cases ho
    exact ⟨_, rfl, Loc2.same hnx nil', nil⟩
  case extract x i =>
    cases hf
    split at ho
    case h_2 => cases ho
    obtain ⟨y, e1, e2⟩ := q0B ho
    cases e2
    rw [e1]
    exact ⟨_, rfl, Loc2.same hnx nil', nil⟩
  case move x => cases hf; cases ho; exact ⟨_, rfl, Loc2.same hnx nil', nil⟩
  case assign x => cases hf; cases ho; exact ⟨_, rfl, Loc2.same hnx nil', nil⟩
  all_goals first
    | (cases hf
       obtain ⟨y, e1, e2⟩ := q0B ho
       cases e2
       rw [e1]
       exact ⟨_, rfl, Loc2.same hnx nil', nil⟩)
    | (cases ho; done)
end
end Go.Ax
namespace Go.Ax
theorem q5v (k i : Nat) : Nat.testBit (Nat.shiftLeft 1 k) i = decide (k = i) := by
 show Nat.testBit (1 <<< k) i = _
 rw [Nat.one_shiftLeft, Nat.testBit_two_pow]
theorem testBit_lor (x y i : Nat) : Nat.testBit (Nat.lor x y) i = (Nat.testBit x i || Nat.testBit y i) := Nat.testBit_or x y i
theorem maskOf_bit {acc : List Nat} {i : Nat} : ∀ {es : List Edge}, Nat.testBit (q9Z acc es) i = true → ∃ e ∈ es, hard e = true ∧ (e.on = i ∨ ∃ m, acc[e.on]? = some m ∧ Nat.testBit m i = true)
  | [], h => by simp [q9Z] at h
  | e :: l, h => by
    unfold q9Z at h
    cases hh : hard e with
    | false =>
      rw [hh] at h
      obtain ⟨e', h1, h2⟩ := maskOf_bit h
      exact ⟨e', List.mem_cons_of_mem _ h1, h2⟩
    | true =>
      rw [hh] at h
      simp only [cond_true, testBit_lor, q5v, Bool.or_eq_true, decide_eq_true_eq] at h
      rcases h with (h | h) | h
      · exact ⟨e, List.mem_cons_self, hh, .inl h⟩
      · refine ⟨e, List.mem_cons_self, hh, .inr ?_⟩
        split at h
        · rename_i m hm; exact ⟨m, hm, h⟩
        · simp at h
      · obtain ⟨e', h1, h2⟩ := maskOf_bit h
        exact ⟨e', List.mem_cons_of_mem _ h1, h2⟩
theorem q9F : ∀ (l : List Oper) (acc : List Nat), (∃ rest, masks acc l = acc ++ rest ∧ rest.length = l.length) ∧
    ∀ i o, l[i]? = some o → (masks acc l)[acc.length + i]? = some (q9Z ((masks acc l).take (acc.length + i)) o.after.toList)
  | [], acc => ⟨⟨[], by simp [masks], rfl⟩, fun i o h => by simp at h⟩
  | o :: l, acc => by
    obtain ⟨⟨rest, h1, h2⟩, h3⟩ := q9F l (acc ++ [q9Z acc o.after.toList])
    have e : masks acc (o :: l) = masks (acc ++ [q9Z acc o.after.toList]) l := rfl
    refine ⟨⟨q9Z acc o.after.toList :: rest, by rw [e, h1]; simp, by simp [h2]⟩, fun i o' hi => ?_⟩
    rw [e]
    cases i with
    | zero =>
      cases hi
      rw [h1]
      simp
    | succ i =>
      have := h3 i o' hi
      simp only [List.length_append, List.length_cons, List.length_nil] at this
      rw [show acc.length + (i + 1) = acc.length + (0 + 1) + i by omega]
      exact this
theorem inMask_iff {ms : List Nat} {j i : Nat} : q0A ms j i = true ↔ ∃ m, ms[j]? = some m ∧ Nat.testBit m i = true := by
 unfold q0A
 split
 ·rename_i m h; exact ⟨fun hb => ⟨m, h, hb⟩, fun ⟨m', h', hb⟩ => by rw [h] at h'; cases h'; exact hb⟩
 ·rename_i h; exact ⟨(fun hb => by cases hb), fun ⟨m', h', _⟩ => by rw [h] at h'; cases h'⟩
def After (ops : Array Oper) (L : Nat → Prop) (j : Nat) : Prop := ∀ o, ops[j]? = some o → ∀ e ∈ o.after.toList, hard e = true → L e.on
theorem z0v {ops : Array Oper} {L : Nat → Prop} (hL : ∀ j, L j → After ops L j) : ∀ (j i : Nat), After ops L j → q0A (masks [] ops.toList) j i = true → L i := by
  intro j
  induction j using Nat.strongRecOn with
  | _ j ih =>
    intro i hj hm
    obtain ⟨m, h1, h2⟩ := inMask_iff.1 hm
    obtain ⟨⟨rest, e1, e2⟩, e3⟩ := q9F ops.toList []
    have hlt : j < ops.toList.length := by
      have := (List.getElem?_eq_some_iff.1 h1).1
      rw [e1] at this; rw [List.nil_append] at this; omega
    have ho : ops.toList[j]? = some ops.toList[j] := List.getElem?_eq_getElem hlt
    have h3 := e3 j _ ho
    simp only [List.length_nil, Nat.zero_add] at h3
    rw [h1] at h3; cases h3
    obtain ⟨e, he, hh, hc⟩ := maskOf_bit h2
    have hLe : L e.on := hj _ (by simp) e he hh
    rcases hc with rfl | ⟨m', hm', hb⟩
    · exact hLe
    · obtain ⟨hlt', hget⟩ := List.getElem?_eq_some_iff.1 hm'
      rw [List.length_take] at hlt'
      refine ih e.on (by omega) i (hL _ hLe) (inMask_iff.2 ⟨m', ?_, hb⟩)
      rw [List.getElem?_take] at hm'
      split at hm'
      · exact hm'
      · cases hm'
theorem bits_mem {t : Nat} : ∀ {l : List Nat}, t ∈ l → Nat.testBit (bits l) t = true
  | [], h => by cases h
  | x :: l, h => by
    unfold bits
    rw [testBit_lor, q5v]
    rcases List.mem_cons.1 h with rfl | h
    · simp
    · rw [bits_mem h, Bool.or_true]
theorem q7s {t : Nat} : ∀ {l : List Operand}, Operand.tmp t ∈ l → t ∈ tmpsOf l
  | [], h => by cases h
  | x :: l, h => by
    rcases List.mem_cons.1 h with e | h'
    · subst e; exact List.mem_cons_self
    · clear h
      cases x with
      | tmp u => exact List.mem_cons_of_mem _ (q7s h')
      | const v => exact (q7s h' : t ∈ tmpsOf l)
      | global g => exact (q7s h' : t ∈ tmpsOf l)
      | func f => exact (q7s h' : t ∈ tmpsOf l)
theorem z0u {a b t : Nat} (h : meets a b = false) (ha : Nat.testBit a t = true) : Nat.testBit b t = false := by
 unfold meets at h
 have h0 : Nat.land a b = 0 := by
  have : Nat.beq (Nat.land a b) 0 = true := by simpa using h
  exact Nat.eq_of_beq_eq_true this
 have h1 : Nat.testBit (Nat.land a b) t = (Nat.testBit a t && Nat.testBit b t) := Nat.testBit_and a b t
 rw [h0, ha, Nat.zero_testBit] at h1
 simpa using h1.symm
def PairP (m : Nat) (lk dt : Nat) (x : Nat × Nat × Nat) : Prop := (meets x.2.2 lk || (meets x.2.2 dt || meets dt x.2.1)) = true → Nat.testBit m x.1 = true
theorem z0q {m lk dt : Nat} : ∀ {l : List (Nat × Nat × Nat)}, pairOk m lk dt l = true → ∀ x ∈ l, PairP m lk dt x
  | [], _, x, hx => by cases hx
  | (i, p, d) :: l, h, x, hx => by
    unfold pairOk at h
    cases hc : (meets d lk || (meets d dt || meets dt p)) with
    | false =>
      rw [hc] at h
      rcases List.mem_cons.1 hx with rfl | hx
      · intro h'; rw [hc] at h'; cases h'
      · exact z0q h x hx
    | true =>
      rw [hc] at h
      simp only [cond_true] at h
      cases hb : Nat.testBit m i with
      | false => rw [hb] at h; cases h
      | true =>
        rw [hb] at h
        rcases List.mem_cons.1 hx with rfl | hx
        · exact fun _ => hb
        · exact z0q h x hx
theorem q9b {i : Nat} : ∀ {l : List Edge}, z0m i l = true → ∀ e ∈ l, hard e = true → e.on < i
  | [], _, e, he, _ => by cases he
  | e :: l, h, e', he, hh => by
    unfold z0m at h
    cases hc : hard e with
    | false =>
      rw [hc] at h
      rcases List.mem_cons.1 he with rfl | he
      · rw [hc] at hh; cases hh
      · exact q9b h e' he hh
    | true =>
      rw [hc] at h
      simp only [cond_true] at h
      cases hb : Nat.blt e.on i with
      | false => rw [hb] at h; cases h
      | true =>
        rw [hb] at h
        rcases List.mem_cons.1 he with rfl | he
        · exact Nat.le_of_ble_eq_true hb
        · exact q9b h e' he hh
theorem z0z {ops : List Oper} : ∀ (l : List Oper) (ms : List Nat) (i : Nat) (acc : List (Nat × Nat × Nat)), q7o ops l ms i acc = true → ∀ k o m, l[k]? = some o → ms[k]? = some m →
    z0m (i + k) o.after.toList = true ∧ (∀ x ∈ acc, PairP m (looks ops o) (q8r o) x) ∧ ∀ k' o', k' < k → l[k']? = some o' → PairP m (looks ops o) (q8r o) (i + k', looks ops o', q8r o')
  | [], _, _, _, _, k, o, m, h, _ => by simp at h
  | o :: l, [], _, _, h, _, _, _, _, _ => by cases h
  | o :: l, m :: ms, i, acc, h, k, o', m', ho, hm => by
    unfold q7o at h
    cases hc : (z0m i o.after.toList && pairOk m (looks ops o) (q8r o) acc) with
    | false => rw [hc] at h; cases h
    | true =>
      rw [hc] at h
      simp only [cond_true] at h
      obtain ⟨h1, h2⟩ := q0p hc
      cases k with
      | zero =>
        cases ho; cases hm
        exact ⟨h1, z0q h2, fun k' o' hk => by omega⟩
      | succ k =>
        obtain ⟨g1, g2, g3⟩ := z0z l ms (i + 1) _ h k o' m' ho hm
        refine ⟨by rw [show i + (k + 1) = i + 1 + k by omega]; exact g1, fun x hx => g2 x (List.mem_cons_of_mem _ hx), fun k' o'' hk hk' => ?_⟩
        cases k' with
        | zero => cases hk'; exact g2 _ List.mem_cons_self
        | succ k' => rw [show i + (k' + 1) = i + 1 + k' by omega]; exact g3 k' o'' (by omega) hk'
structure Apart (ops : Array Oper) (p q : Oper) : Prop where
 pq : ∀ t, p.dst = some t → (∀ x ∈ q.op.operands, x ≠ .tmp t) ∧ ∀ g w, q.guard = some (g, w) → ∀ y, ops[g]? = some y → y.dst ≠ some t
 qp : ∀ t, q.dst = some t → (∀ x ∈ p.op.operands, x ≠ .tmp t) ∧ ∀ g w, p.guard = some (g, w) → ∀ y, ops[g]? = some y → y.dst ≠ some t
 dd : ∀ t, p.dst = some t → q.dst ≠ some t
theorem looks_of {ops : Array Oper} {q : Oper} {t : Nat} (h : Nat.testBit (looks ops.toList q) t = false) : (∀ x ∈ q.op.operands, x ≠ .tmp t) ∧ ∀ g w, q.guard = some (g, w) → ∀ y, ops[g]? = some y → y.dst ≠ some t := by
 have key : t ∉ tmpsOf q.op.operands.toList ++ guardTmp ops.toList q := fun hm => by
  have := bits_mem hm
  unfold looks at h
  rw [this] at h; cases h
 refine ⟨fun x hx e => ?_, fun g w hg y hy hd => ?_⟩
 ·subst e
  exact key (List.mem_append_left _ (q7s (by simpa using hx)))
 ·refine key (List.mem_append_right _ ?_)
  have hy' : ops.toList[g]? = some y := by simpa using hy
  simp [guardTmp, hg, hy', hd]
theorem q5u {ops : Array Oper} (h : q7o ops.toList ops.toList (masks [] ops.toList) 0 [] = true) {i j : Nat} {p q : Oper} (hij : i < j) (hi : ops[i]? = some p) (hj : ops[j]? = some q) :
    q0A (masks [] ops.toList) j i = true ∨ Apart ops p q := by
  obtain ⟨⟨rest, e1, e2⟩, e3⟩ := q9F ops.toList []
  have hj' : ops.toList[j]? = some q := by simpa using hj
  have hi' : ops.toList[i]? = some p := by simpa using hi
  have hm := e3 j q hj'
  simp only [List.length_nil, Nat.zero_add] at hm
  obtain ⟨_, _, g3⟩ := z0z _ _ _ _ h j q _ hj' hm
  have hp := g3 i p hij hi'
  rw [Nat.zero_add] at hp
  unfold PairP at hp
  dsimp only at hp
  cases hc : (meets (q8r p) (looks ops.toList q) || (meets (q8r p) (q8r q) || meets (q8r q) (looks ops.toList p))) with
  | true => exact .inl (inMask_iff.2 ⟨_, hm, hp hc⟩)
  | false =>
    simp only [Bool.or_eq_false_iff] at hc
    obtain ⟨c1, c2, c3⟩ := hc
    have bit : ∀ (o : Oper) (t : Nat), o.dst = some t → Nat.testBit (q8r o) t = true := fun o t ht => by
      unfold q8r; rw [ht]; dsimp only; rw [q5v]; simp
    refine .inr ⟨fun t ht => looks_of (z0u c1 (bit p t ht)), fun t ht => looks_of (z0u c3 (bit q t ht)), fun t ht hq => ?_⟩
    have := z0u c2 (bit p t ht)
    rw [bit q t hq] at this; cases this
theorem drawOk_edge {ops : Array Oper} (h : q7o ops.toList ops.toList (masks [] ops.toList) 0 [] = true) {j : Nat} {q : Oper} (hj : ops[j]? = some q) : ∀ e ∈ q.after.toList, hard e = true → e.on < j := by
 obtain ⟨⟨rest, e1, e2⟩, e3⟩ := q9F ops.toList []
 have hj' : ops.toList[j]? = some q := by simpa using hj
 have hm := e3 j q hj'
 simp only [List.length_nil, Nat.zero_add] at hm
 obtain ⟨g1, _, _⟩ := z0z _ _ _ _ h j q _ hj' hm
 rw [Nat.zero_add] at g1
 exact q9b g1
end Go.Ax
