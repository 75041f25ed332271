import Derived.Test.YtflfodegogjefaaGreatDoorV08
import Derived.Deep.Slices
import Derived.Test.YtflfodegogjefaaGreatDoorRows
import Derived.Test.YtflfodegogjefaaGreatDoorTie
import Derived.Test.YtflfodegogjefaaGreatDoorCards
import Derived.Test.YtflfodegogjefaaGreatDoorChecked
import Derived.ProofKit
import Derived.LaidMore
import Derived.LaidHandle
import Derived.Stop.Joined
import Derived.SevenTiedAt
set_option linter.unusedSimpArgs false
set_option linter.unusedVariables false
namespace Go.Ax
section
variable {H : Type} {enc : TypeId × Value → H} {P : Program} {W : World} {spare : Nat → Bool} {held : Bool} {m : Loc} {fuel : Nat}
theorem Addr.add_block (a : Addr) (n : Nat) : (a.add n).block = a.block := by unfold Addr.add; split <;> rfl
theorem Addr.add_off (a : Addr) (n : Nat) : (a.add n).off = a.off + n := by unfold Addr.add; split <;> simp_all
theorem cell_at {a : Addr} {v : Value} (h : W.cell? a = some v) : ∃ arr e fz, W.heap[a.block]? = some (.cells arr e fz) ∧ a.spot = none ∧ arr[a.off]? = some v := by
 unfold World.cell? at h
 split at h
 ·rename_i c e fz hb
  split at h
  ·cases h
  ·rename_i hs
   exact ⟨c, e, fz, hb, by simpa using hs, h⟩
 ·cases h
def slIf {β : Type} (f : β → List AV) : Option (List β) → AV
 | none => .nilsl
 | some l => .isl (l.map f)
theorem q4J {t : TypeId} {k : IntKind} {cs : List Value} {x : DataW H × List MemPlace} (ht : P.underlying t = some (.int k)) (h : DataW.trod enc P W 0 spare held fuel t cs = some x) : ∃ n, cs = [.int k n] ∧ (Lit.int k n).wf = true := by
  cases fuel with
  | zero => simp [DataW.trod] at h
  | succ f =>
    unfold DataW.trod at h
    rw [ht] at h
    split at h <;> simp_all
theorem u8_nat {n : Int} (h : (Lit.int .u8 n).wf = true) : ∃ k : Nat, n = .ofNat k ∧ k < 256 := by
 simp [Lit.wf, IntKind.min, IntKind.max, IntKind.signed, IntKind.bits] at h
 exact ⟨n.toNat, by simp; omega, by omega⟩
end
theorem slicesFull {P : Program} (h : ((List.range P.types.size).all fun t => match P.underlying t with | some (.slice e) => decide (0 < P.cellsOf e) | _ => true) = true) : ∀ {t e : TypeId}, t < P.types.size → P.underlying t = some (.slice e) → 0 < P.cellsOf e := fun {t e} hl ht => by
 have := List.all_eq_true.1 h t (List.mem_range.2 hl)
 rw [ht] at this
 simpa using this
theorem z1B {H : Type} {enc : TypeId × Value → H} {P : Program} {W W' : World} (hl : laidOutB P = true) (hm : mapsRowed P = true) (hz : ((List.range P.types.size).all fun t => match P.underlying t with | some (.slice e) => decide (0 < P.cellsOf e) | _ => true) = true)
    (hb : Go.RowKit.Below W.heap.size W W') : ∀ {ts : List TypeId} {vs : List Value} {ds : List (DataW H)} {ps : List MemPlace}, (∀ t ∈ ts, t < P.types.size) → DataW.TrodAll enc P W 0 (fun _ => true) true ts vs ds ps → (∀ p ∈ ps, p.block < W.heap.size) → DataW.TrodAll enc P W' 0 (fun b => decide (b < W.heap.size)) true ts vs ds ps
  | [], [], [], _, _, h, _ => h
  | t :: ts, v :: vs, d :: ds, _, hT, ⟨p, q, ⟨n, h1⟩, h2, e⟩, hlt => by
    have lt : ∀ x ∈ p, x.block < W.heap.size := fun x hx => hlt x (by rw [e]; exact List.mem_append_left _ hx)
    exact ⟨p, q, ⟨n, DataW.trod_stays (kids_rows hl hm) (slicesFull hz) (fun h => by cases h) (hT t List.mem_cons_self) h1 (fun x hx => hb.same (lt x hx)) (fun x hx => by simpa using lt x hx)⟩,
      z1B hl hm hz hb (fun t ht => hT t (List.mem_cons_of_mem _ ht)) h2 (fun x hx => hlt x (by rw [e]; exact List.mem_append_right _ hx)), e⟩
  | [], [], _ :: _, _, _, h, _ => by simp [DataW.TrodAll] at h
  | [], _ :: _, _, _, _, h, _ => by simp [DataW.TrodAll] at h
  | _ :: _, [], _, _, _, h, _ => by simp [DataW.TrodAll] at h
  | _ :: _, _ :: _, [], _, _, h, _ => by simp [DataW.TrodAll] at h
end Go.Ax
namespace Go.Ax
section
variable {H : Type} {enc : TypeId × Value → H} {P : Program} {W : World} {spare : Nat → Bool} {held : Bool} {m : Loc} {fuel : Nat}
def OkW (P : Program) (t : TypeId) (d : DataW H) : Prop := ∀ n ∈ d.weights P t, n ≤ reachBytes
theorem z0b {e : TypeId} {d : DataW H} {n : Nat} (hn : n ∈ d.weights P e) : ∀ {l : List (DataW H)}, d ∈ l → n ∈ DataW.weightsAll P e l
  | x :: l, h => by
    unfold DataW.weightsAll
    rcases List.mem_cons.1 h with rfl | h
    · exact List.mem_append_left _ hn
    · exact List.mem_append_right _ (z0b hn h)
theorem q7f {n : Nat} : ∀ {ts : List TypeId} {ds : List (DataW H)} (i : Nat) (t : TypeId) (d : DataW H), ts[i]? = some t → ds[i]? = some d → n ∈ d.weights P t → n ∈ DataW.weightsEach P ts ds
  | t :: ts, d :: ds, 0, _, _, ht, hd, h => by
    cases ht; cases hd
    unfold DataW.weightsEach
    exact List.mem_append_left _ h
  | t :: ts, d :: ds, i + 1, _, _, ht, hd, h => by
    unfold DataW.weightsEach
    exact List.mem_append_right _ (q7f i _ _ (by simpa using ht) (by simpa using hd) h)
  | [], _, i, _, _, ht, _, _ => by simp at ht
  | _ :: _, [], i, _, _, _, hd, _ => by simp at hd
theorem OkW.elem {t e : TypeId} {l k : List (DataW H)} {d : DataW H} (h : OkW P t (.slice l k)) (ht : P.underlying t = some (.slice e)) (hd : d ∈ l) : OkW P e d := fun n hn => h n (by
 unfold DataW.weights
 rw [ht]
 exact List.mem_cons_of_mem _ (List.mem_append_left _ (z0b hn hd)))
theorem OkW.len {t e : TypeId} {l k : List (DataW H)} (h : OkW P t (.slice l k)) (ht : P.underlying t = some (.slice e)) : (l.length + k.length) * P.bytesOf e ≤ reachBytes := h _ (by
 unfold DataW.weights
 rw [ht]
 exact List.mem_cons_self)
theorem okW_of {ts : List TypeId} {ds : List (DataW H)} (h : (DataW.weightsEach P ts ds).all (· ≤ reachBytes) = true) {i : Nat} {t : TypeId} {d : DataW H} (ht : ts[i]? = some t) (hd : ds[i]? = some d) : OkW P t d := fun n hn => by
 have := List.all_eq_true.1 h n (q7f i t d ht hd hn)
 simpa using this
theorem q7u {β : Type} {f : β → List AV} {good : β → Prop} {t e : TypeId} {es : Nat} {v : Value} {x : DataW H × List MemPlace} (ht : P.underlying t = some (.slice e)) (hes : P.cellsOf e = es) (hpos : 0 < es)
  (hel : ∀ n cs' y, DataW.trod enc P W 0 spare held n e cs' = some y → OkW P e y.1 → ∃ q : β, good q ∧ LRel P (frozen W) m (f q) cs')
  (h : DataW.trod enc P W 0 spare held fuel t [v] = some x) (hw : OkW P t x.1) : ∃ E : Option (List β), VRel P (frozen W) m (slIf f E) v ∧ (∀ l, E = some l → l.length * P.bytesOf e ≤ reachBytes ∧ ∀ q ∈ l, good q) := by
 rcases Go.Deep.open_slice ht h with ⟨hv, _⟩ | ⟨a, len, cap, k, n, D, Pl, hv, _, hl, _, hk, hxe, hx⟩
 ·cases hv
  exact ⟨none, .nilsl, fun l hl => by cases hl⟩
 ·cases hv
  rw [hes] at hx
  by_cases h0 : len = 0
  ·subst h0
   exact ⟨some [], .isl0 _ _, fun l hl => by cases hl; exact ⟨by simp, fun q hq => by cases hq⟩⟩
  rw [hxe] at hw
  have hkl : len ≤ k := by rw [hk]; split <;> omega
  have hall : ∀ i, i < len → ∃ q cs', good q ∧ LRel P (frozen W) m (f q) cs' ∧ W.cells? 0 (a.add (i * es)) es = some cs' := fun i hi => by
   obtain ⟨cs', h1, h2⟩ := hx i (by omega)
   obtain ⟨q, hq, hr⟩ := hel n cs' _ h2 (hw.elem ht (List.mem_map_of_mem (List.mem_range.2 hi)))
   exact ⟨q, cs', hq, hr, h1⟩
  -- the block
  obtain ⟨q0, cs0, _, _, hc0⟩ := hall 0 (by omega)
  obtain ⟨_, hlen0, hcell0⟩ := World.cells?_some hc0
  have hz := hcell0 0 hpos
  rw [List.getElem?_eq_getElem (by omega)] at hz
  rw [Nat.zero_mul] at hz
  have ha0 : (a.add 0).add 0 = a := by unfold Addr.add; simp
  rw [ha0] at hz
  obtain ⟨arr, e0, fz, hb, hsp, _⟩ := cell_at hz
  -- the elements
  let Q : Nat → β := fun i => if hi : i < len then Classical.choose (hall i hi) else q0
  have hQ : ∀ i, i < len → ∃ cs', good (Q i) ∧ LRel P (frozen W) m (f (Q i)) cs' ∧ W.cells? 0 (a.add (i * es)) es = some cs' := fun i hi => by
   show ∃ cs', good (if hi : i < len then Classical.choose (hall i hi) else q0) ∧ LRel P (frozen W) m (f (if hi : i < len then Classical.choose (hall i hi) else q0)) cs' ∧ _
   rw [dif_pos hi]
   exact Classical.choose_spec (hall i hi)
  have hcell : ∀ i j, i < len → j < es → ∃ x y, (f (Q i))[j]? = some x ∧ arr[a.off + i * es + j]? = some y ∧ VRel P (frozen W) m x y := fun i j hi hj => by
   obtain ⟨cs', _, hr, hc⟩ := hQ i hi
   obtain ⟨_, hlen, hcl⟩ := World.cells?_some hc
   have h1 := hcl j hj
   have hj2 : j < cs'.length := by omega
   rw [List.getElem?_eq_getElem hj2] at h1
   obtain ⟨arr', e', fz', g1, _, g3⟩ := cell_at h1
   rw [Addr.add_block, Addr.add_block, hb] at g1
   cases g1
   rw [Addr.add_off, Addr.add_off] at g3
   have hjf : j < (f (Q i)).length := by rw [hr.len]; exact hj2
   exact ⟨(f (Q i))[j], cs'[j], List.getElem?_eq_getElem hjf, g3, hr.at' j _ _ (List.getElem?_eq_getElem hjf) (List.getElem?_eq_getElem hj2)⟩
  have hflen : ∀ i, i < len → (f (Q i)).length = es := fun i hi => by
   obtain ⟨cs', _, hr, hc⟩ := hQ i hi
   rw [hr.len]; exact (World.cells?_some hc).2.1
  refine ⟨some ((List.range len).map Q), ?_, fun l hl => ?_⟩
  ·have hL : (((List.range len).map Q).map f).length = len := by simp
   have hat : ∀ i c, (((List.range len).map Q).map f)[i]? = some c → i < len ∧ c = f (Q i) := fun i c hc => by
    have hi : i < len := by have := (List.getElem?_eq_some_iff.1 hc).1; rw [hL] at this; exact this
    refine ⟨hi, ?_⟩
    rw [List.getElem?_map, List.getElem?_map, List.getElem?_range hi] at hc
    simpa using hc.symm
   obtain ⟨ab, ao, asp⟩ := a
   dsimp only at hsp hb hcell
   subst hsp
   have := VRel.isl (P := P) (F := frozen W) (m := m) (xs := ((List.range len).map Q).map f) (b := ab) (off := ao) (cap := cap) (arr := arr) (e := e0) (fz := fz) es (fun i j => arr.getD (ao + i * es + j) Go.undef) (.inl hb) (by rw [hL]; exact hl)
    (fun c hc => by
     obtain ⟨i, hi, rfl⟩ := List.getElem_of_mem hc
     obtain ⟨h1, h2⟩ := hat i _ (List.getElem?_eq_getElem hi)
     rw [h2]; exact hflen i h1)
    (fun i j hi hj => by
     rw [hL] at hi
     obtain ⟨x, y, _, hy, _⟩ := hcell i j hi hj
     rw [Array.getD_eq_getD_getElem?, hy]; rfl)
    (fun i j c x hc hx => by
     obtain ⟨h1, rfl⟩ := hat i c hc
     have hj : j < es := by have := (List.getElem?_eq_some_iff.1 hx).1; rw [hflen i h1] at this; exact this
     obtain ⟨x', y, hx', hy, hr⟩ := hcell i j h1 hj
     rw [hx] at hx'
     cases hx'
     rw [Array.getD_eq_getD_getElem?, hy]; exact hr)
   rw [hL] at this
   exact this
  ·cases hl
   refine ⟨?_, fun q hq => ?_⟩
   ·have := hw.len ht
    simp only [List.length_map, List.length_range] at this
    rw [List.length_map, List.length_range]
    exact Nat.le_trans (Nat.mul_le_mul_right _ (by omega)) this
   obtain ⟨i, hi, rfl⟩ := List.mem_map.1 hq
   obtain ⟨_, hg, _⟩ := hQ i (List.mem_range.1 hi)
   exact hg
theorem q5t {t : TypeId} {fs : Array Field} {cs : List Value} {x : DataW H × List MemPlace} (ht : P.underlying t = some (.struct fs)) (h : DataW.trod enc P W 0 spare held fuel t cs = some x) (hw : OkW P t x.1) :
  cs.length = P.cellsOf t ∧ ∀ (i : Nat) (f : Field), fs[i]? = some f → ∃ n y, DataW.trod enc P W 0 spare held n f.type ((cs.drop f.offset).take (P.cellsOf f.type)) = some y ∧ OkW P f.type y.1 := by
 obtain ⟨xs, n, _, hx, h1, h2, h3⟩ := DataW.trod_struct ht h
 refine ⟨h1, fun i f hf => ?_⟩
 have hi : i < xs.length := by rw [h2]; exact (Array.getElem?_eq_some_iff.1 hf).1
 refine ⟨n, xs[i], by rw [h3 i f hf, List.getElem?_eq_getElem hi], fun k hk => hw k ?_⟩
 rw [hx]
 unfold DataW.weights
 rw [ht]
 refine q7f i f.type xs[i].1 ?_ ?_ hk
 ·rw [List.getElem?_map, Array.getElem?_toList, hf]; rfl
 ·rw [List.getElem?_map, List.getElem?_eq_getElem hi]; rfl
end
theorem law_pure {P : Program} {W : World} {f : FuncId} {avs : List AV} {args : Array Value} (hA : LRel P (frozen W) ⟨fun _ => none, fun _ => none⟩ avs args.toList) (h : q0y P (frozen W) f avs (.bool true)) : Calls P f args W fun e W' => e = .returned (.bool true) ∧ Go.RowKit.Below W.heap.size W W' := by
 have h1 := callsIn_wide.1 (h ⟨fun _ => none, fun _ => none⟩ W 0 args (fun b o hb => hb.elim id fun h => by cases h) hA)
 refine h1.mono fun e W' he => ?_
 obtain ⟨cv, fz, rfl, hs, hn, hold, _, _, _, hv⟩ := he
 obtain rfl := hv.bool_inv
 exact ⟨rfl, hs.os, hs.tape, hs.output, hn, fun k hk => hold k hk⟩
end Go.Ax
set_option maxRecDepth 20000
noncomputable section
namespace Go.Ax
open Go.Proofs
theorem cells2 : Tryz.prog.cellsOf 2 = 1 := by kernel_rfl
theorem cells3 : Tryz.prog.cellsOf 3 = 1 := by kernel_rfl
theorem cells5 : Tryz.prog.cellsOf 5 = 1 := by kernel_rfl
theorem cells22 : Tryz.prog.cellsOf 22 = 1 := by kernel_rfl
theorem cells23 : Tryz.prog.cellsOf 23 = 1 := by kernel_rfl
theorem cells25 : Tryz.prog.cellsOf 25 = 2 := by kernel_rfl
theorem cells26 : Tryz.prog.cellsOf 26 = 1 := by kernel_rfl
theorem cells41 : Tryz.prog.cellsOf 41 = 1 := by kernel_rfl
theorem cells43 : Tryz.prog.cellsOf 43 = 2 := by kernel_rfl
theorem cells45 : Tryz.prog.cellsOf 45 = 1 := by kernel_rfl
theorem cells47 : Tryz.prog.cellsOf 47 = 4 := by kernel_rfl
theorem cells49 : Tryz.prog.cellsOf 49 = 5 := by kernel_rfl
theorem cells52 : Tryz.prog.cellsOf 52 = 7 := by kernel_rfl
theorem cells97 : Tryz.prog.cellsOf 97 = 4 := by kernel_rfl
theorem bytes52 : Tryz.prog.bytesOf 52 = 88 := by kernel_rfl
def isL {X : Type} : Option (List X) → Sl X
 | none => .nil
 | some l => .mk l
theorem slIf_av {X : Type} (f : X → List AV) (E : Option (List X)) : slIf f E = (isL E).av f := by cases E <;> rfl
theorem isL_mem {X : Type} {E : Option (List X)} {x : X} (h : x ∈ (isL E).list) : ∃ l, E = some l ∧ x ∈ l := by
 cases E with
 | none => simp [isL, Sl.list] at h
 | some l => exact ⟨l, rfl, h⟩
theorem len2' {α : Type} : ∀ (l : List α), l.length = 2 → ∃ a b, l = [a, b]
 | [a, b], _ => ⟨a, b, rfl⟩
theorem len4' {α : Type} : ∀ (l : List α), l.length = 4 → ∃ a b c d, l = [a, b, c, d]
 | [a, b, c, d], _ => ⟨a, b, c, d, rfl⟩
theorem len5' {α : Type} : ∀ (l : List α), l.length = 5 → ∃ a b c d e, l = [a, b, c, d, e]
 | [a, b, c, d, e], _ => ⟨a, b, c, d, e, rfl⟩
theorem len7' {α : Type} : ∀ (l : List α), l.length = 7 → ∃ a b c d e f g, l = [a, b, c, d, e, f, g]
 | [a, b, c, d, e, f, g], _ => ⟨a, b, c, d, e, f, g, rfl⟩
section
variable {H : Type} {enc : TypeId × Value → H} {W : World} {sp : Nat → Bool} {hd : Bool} {m : Go.Ax.Loc}
theorem ints_rel {n : Nat} {v : Value} {y : DataW H × List MemPlace} (h : DataW.trod enc Tryz.prog W 0 sp hd n 26 [v] = some y) (hw : OkW Tryz.prog 26 y.1) : ∃ l : Sl Int, VRel Tryz.prog (Go.Ax.frozen W) m (l.av cI) v := by
  obtain ⟨E, h1, _⟩ := q7u (m := m) (f := cI) (good := fun _ => True) Tryz.underlying26 cells3 (by omega) (fun n cs y h _ => by
    obtain ⟨k, hk, _⟩ := q4J Tryz.underlying3 h
    subst hk
    exact ⟨k, trivial, .cons (.int _ _) .nil⟩) h hw
  exact ⟨isL E, by rw [← slIf_av]; exact h1⟩
theorem type_rel {n : Nat} {cs : List Value} {y : DataW H × List MemPlace} (h : DataW.trod enc Tryz.prog W 0 sp hd n 97 cs = some y) (hw : OkW Tryz.prog 97 y.1) : ∃ q : LType, LRel Tryz.prog (Go.Ax.frozen W) m q.cells cs := by
 obtain ⟨hl, hf⟩ := q5t Tryz.underlying97 h hw
 rw [cells97] at hl
 obtain ⟨c0, c1, c2, c3, rfl⟩ := len4' cs hl
 obtain ⟨n0, y0, h0, w0⟩ : ∃ n y, DataW.trod enc Tryz.prog W 0 sp hd n 5 (([c0, c1, c2, c3].drop 0).take (Tryz.prog.cellsOf 5)) = some y ∧ OkW Tryz.prog 5 y.1 := hf 0 _ rfl
 obtain ⟨n1, y1, h1, w1⟩ : ∃ n y, DataW.trod enc Tryz.prog W 0 sp hd n 3 (([c0, c1, c2, c3].drop 1).take (Tryz.prog.cellsOf 3)) = some y ∧ OkW Tryz.prog 3 y.1 := hf 1 _ rfl
 obtain ⟨n2, y2, h2, w2⟩ : ∃ n y, DataW.trod enc Tryz.prog W 0 sp hd n 3 (([c0, c1, c2, c3].drop 2).take (Tryz.prog.cellsOf 3)) = some y ∧ OkW Tryz.prog 3 y.1 := hf 2 _ rfl
 obtain ⟨n3, y3, h3, w3⟩ : ∃ n y, DataW.trod enc Tryz.prog W 0 sp hd n 26 (([c0, c1, c2, c3].drop 3).take (Tryz.prog.cellsOf 26)) = some y ∧ OkW Tryz.prog 26 y.1 := hf 3 _ rfl
 rw [cells5] at h0
 rw [cells3] at h1 h2
 rw [cells26] at h3
 simp only [List.drop_succ_cons, List.drop_zero, List.take_succ_cons, List.take_zero] at h0 h1 h2 h3
 obtain ⟨k0, e0, _⟩ := q4J Tryz.underlying5 h0
 obtain ⟨k1, e1, _⟩ := q4J Tryz.underlying3 h1
 obtain ⟨k2, e2, _⟩ := q4J Tryz.underlying3 h2
 obtain ⟨l, hr⟩ := ints_rel (m := m) h3 w3
 simp only [List.cons.injEq, and_true] at e0 e1 e2
 subst e0 e1 e2
 exact ⟨⟨k0, k1, k2, l⟩, .cons (.int _ _) (.cons (.int _ _) (.cons (.int _ _) (.cons hr .nil)))⟩
theorem types_rel {n : Nat} {v : Value} {y : DataW H × List MemPlace} (h : DataW.trod enc Tryz.prog W 0 sp hd n 22 [v] = some y) (hw : OkW Tryz.prog 22 y.1) : ∃ l : Sl LType, VRel Tryz.prog (Go.Ax.frozen W) m (l.av LType.cells) v := by
  obtain ⟨E, h1, _⟩ := q7u (m := m) (f := LType.cells) (good := fun _ => True) Tryz.underlying22 cells97 (by omega) (fun n cs y h w => by
    obtain ⟨q, hq⟩ := type_rel (m := m) h w
    exact ⟨q, trivial, hq⟩) h hw
  exact ⟨isL E, by rw [← slIf_av]; exact h1⟩
theorem ins_rel {n : Nat} {cs : List Value} {y : DataW H × List MemPlace} (h : DataW.trod enc Tryz.prog W 0 sp hd n 52 cs = some y) (hw : OkW Tryz.prog 52 y.1) : ∃ q : LIns, (0 ≤ q.op ∧ q.op < 256) ∧ LRel Tryz.prog (Go.Ax.frozen W) m q.cells cs := by
 obtain ⟨hl, hf⟩ := q5t Tryz.underlying52 h hw
 rw [cells52] at hl
 obtain ⟨c0, c1, c2, c3, c4, c5, c6, rfl⟩ := len7' cs hl
 obtain ⟨n0, y0, h0, w0⟩ : ∃ n y, DataW.trod enc Tryz.prog W 0 sp hd n 5 (([c0, c1, c2, c3, c4, c5, c6].drop 0).take (Tryz.prog.cellsOf 5)) = some y ∧ OkW Tryz.prog 5 y.1 := hf 0 _ rfl
 obtain ⟨n1, y1, h1, w1⟩ : ∃ n y, DataW.trod enc Tryz.prog W 0 sp hd n 3 (([c0, c1, c2, c3, c4, c5, c6].drop 1).take (Tryz.prog.cellsOf 3)) = some y ∧ OkW Tryz.prog 3 y.1 := hf 1 _ rfl
 obtain ⟨n2, y2, h2, w2⟩ : ∃ n y, DataW.trod enc Tryz.prog W 0 sp hd n 3 (([c0, c1, c2, c3, c4, c5, c6].drop 2).take (Tryz.prog.cellsOf 3)) = some y ∧ OkW Tryz.prog 3 y.1 := hf 2 _ rfl
 obtain ⟨n3, y3, h3, w3⟩ : ∃ n y, DataW.trod enc Tryz.prog W 0 sp hd n 3 (([c0, c1, c2, c3, c4, c5, c6].drop 3).take (Tryz.prog.cellsOf 3)) = some y ∧ OkW Tryz.prog 3 y.1 := hf 3 _ rfl
 obtain ⟨n4, y4, h4, w4⟩ : ∃ n y, DataW.trod enc Tryz.prog W 0 sp hd n 2 (([c0, c1, c2, c3, c4, c5, c6].drop 4).take (Tryz.prog.cellsOf 2)) = some y ∧ OkW Tryz.prog 2 y.1 := hf 4 _ rfl
 obtain ⟨n5, y5, h5, w5⟩ : ∃ n y, DataW.trod enc Tryz.prog W 0 sp hd n 26 (([c0, c1, c2, c3, c4, c5, c6].drop 5).take (Tryz.prog.cellsOf 26)) = some y ∧ OkW Tryz.prog 26 y.1 := hf 5 _ rfl
 obtain ⟨n6, y6, h6, w6⟩ : ∃ n y, DataW.trod enc Tryz.prog W 0 sp hd n 26 (([c0, c1, c2, c3, c4, c5, c6].drop 6).take (Tryz.prog.cellsOf 26)) = some y ∧ OkW Tryz.prog 26 y.1 := hf 6 _ rfl
 rw [cells5] at h0
 rw [cells3] at h1 h2 h3
 rw [cells2] at h4
 rw [cells26] at h5 h6
 simp only [List.drop_succ_cons, List.drop_zero, List.take_succ_cons, List.take_zero] at h0 h1 h2 h3 h4 h5 h6
 obtain ⟨k0, e0, ww⟩ := q4J Tryz.underlying5 h0
 obtain ⟨k1, e1, _⟩ := q4J Tryz.underlying3 h1
 obtain ⟨k2, e2, _⟩ := q4J Tryz.underlying3 h2
 obtain ⟨k3, e3, _⟩ := q4J Tryz.underlying3 h3
 obtain ⟨k4, e4, _⟩ := q4J Tryz.underlying2 h4
 obtain ⟨l5, hr5⟩ := ints_rel (m := m) h5 w5
 obtain ⟨l6, hr6⟩ := ints_rel (m := m) h6 w6
 simp only [List.cons.injEq, and_true] at e0 e1 e2 e3 e4
 subst e0 e1 e2 e3 e4
 obtain ⟨k, rfl, hk⟩ := u8_nat ww
 exact ⟨⟨.ofNat k, k1, k2, k3, k4, l5, l6⟩, ⟨by simp, by simp; omega⟩, .cons (.int _ _) (.cons (.int _ _) (.cons (.int _ _) (.cons (.int _ _) (.cons (.int _ _) (.cons hr5 (.cons hr6 .nil))))))⟩
def goodB (b : LBlock) : Prop := b.ins.list.length < 4611686018427387904 ∧ ∀ x ∈ b.ins.list, 0 ≤ x.op ∧ x.op < 256
theorem block_rel {n : Nat} {cs : List Value} {y : DataW H × List MemPlace} (h : DataW.trod enc Tryz.prog W 0 sp hd n 49 cs = some y) (hw : OkW Tryz.prog 49 y.1) : ∃ q : LBlock, goodB q ∧ LRel Tryz.prog (Go.Ax.frozen W) m q.cells cs := by
  obtain ⟨hl, hf⟩ := q5t Tryz.underlying49 h hw
  rw [cells49] at hl
  obtain ⟨c0, c1, c2, c3, c4, rfl⟩ := len5' cs hl
  obtain ⟨n0, y0, h0, w0⟩ : ∃ n y, DataW.trod enc Tryz.prog W 0 sp hd n 45 (([c0, c1, c2, c3, c4].drop 0).take (Tryz.prog.cellsOf 45)) = some y ∧ OkW Tryz.prog 45 y.1 := hf 0 _ rfl
  obtain ⟨n1, y1, h1, w1⟩ : ∃ n y, DataW.trod enc Tryz.prog W 0 sp hd n 47 (([c0, c1, c2, c3, c4].drop 1).take (Tryz.prog.cellsOf 47)) = some y ∧ OkW Tryz.prog 47 y.1 := hf 1 _ rfl
  rw [cells45] at h0
  rw [cells47] at h1
  simp only [List.drop_succ_cons, List.drop_zero, List.take_succ_cons, List.take_zero, List.take_nil] at h0 h1
  obtain ⟨E, hE, gE⟩ := q7u (m := m) (f := LIns.cells) (good := fun q => 0 ≤ q.op ∧ q.op < 256) Tryz.underlying45 cells52 (by omega) (fun n cs y h w => ins_rel (m := m) h w) h0 w0
  obtain ⟨_, hf1⟩ := q5t Tryz.underlying47 h1 w1
  obtain ⟨m0, z0, g0, _⟩ : ∃ n y, DataW.trod enc Tryz.prog W 0 sp hd n 5 (([c1, c2, c3, c4].drop 0).take (Tryz.prog.cellsOf 5)) = some y ∧ OkW Tryz.prog 5 y.1 := hf1 0 _ rfl
  obtain ⟨m1, z1, g1, _⟩ : ∃ n y, DataW.trod enc Tryz.prog W 0 sp hd n 3 (([c1, c2, c3, c4].drop 1).take (Tryz.prog.cellsOf 3)) = some y ∧ OkW Tryz.prog 3 y.1 := hf1 1 _ rfl
  obtain ⟨m2, z2, g2, _⟩ : ∃ n y, DataW.trod enc Tryz.prog W 0 sp hd n 3 (([c1, c2, c3, c4].drop 2).take (Tryz.prog.cellsOf 3)) = some y ∧ OkW Tryz.prog 3 y.1 := hf1 2 _ rfl
  obtain ⟨m3, z3, g3, _⟩ : ∃ n y, DataW.trod enc Tryz.prog W 0 sp hd n 3 (([c1, c2, c3, c4].drop 3).take (Tryz.prog.cellsOf 3)) = some y ∧ OkW Tryz.prog 3 y.1 := hf1 3 _ rfl
  rw [cells5] at g0
  rw [cells3] at g1 g2 g3
  simp only [List.drop_succ_cons, List.drop_zero, List.take_succ_cons, List.take_zero] at g0 g1 g2 g3
  obtain ⟨k0, e0, _⟩ := q4J Tryz.underlying5 g0
  obtain ⟨k1, e1, _⟩ := q4J Tryz.underlying3 g1
  obtain ⟨k2, e2, _⟩ := q4J Tryz.underlying3 g2
  obtain ⟨k3, e3, _⟩ := q4J Tryz.underlying3 g3
  simp only [List.cons.injEq, and_true] at e0 e1 e2 e3
  subst e0 e1 e2 e3
  rw [slIf_av] at hE
  refine ⟨⟨isL E, ⟨k0, k1, k2, k3⟩⟩, ⟨?_, fun x hx => ?_⟩, .cons hE (.cons (.int _ _) (.cons (.int _ _) (.cons (.int _ _) (.cons (.int _ _) .nil))))⟩
  · cases E with
    | none => simp [isL, Sl.list]
    | some l =>
      have := (gE l rfl).1
      rw [bytes52] at this
      simp only [reachBytes] at this
      show l.length < _
      omega
  · obtain ⟨l, hl, hxl⟩ := isL_mem hx
    exact (gE l hl).2 x hxl
theorem func_rel {n : Nat} {cs : List Value} {y : DataW H × List MemPlace} (h : DataW.trod enc Tryz.prog W 0 sp hd n 43 cs = some y) (hw : OkW Tryz.prog 43 y.1) : ∃ q : LFunc, (∀ b ∈ q.blocks.list, goodB b) ∧ LRel Tryz.prog (Go.Ax.frozen W) m q.cells cs := by
 obtain ⟨hl, hf⟩ := q5t Tryz.underlying43 h hw
 rw [cells43] at hl
 obtain ⟨c0, c1, rfl⟩ := len2' cs hl
 obtain ⟨n0, y0, h0, w0⟩ : ∃ n y, DataW.trod enc Tryz.prog W 0 sp hd n 3 (([c0, c1].drop 0).take (Tryz.prog.cellsOf 3)) = some y ∧ OkW Tryz.prog 3 y.1 := hf 0 _ rfl
 obtain ⟨n1, y1, h1, w1⟩ : ∃ n y, DataW.trod enc Tryz.prog W 0 sp hd n 41 (([c0, c1].drop 1).take (Tryz.prog.cellsOf 41)) = some y ∧ OkW Tryz.prog 41 y.1 := hf 1 _ rfl
 rw [cells3] at h0
 rw [cells41] at h1
 simp only [List.drop_succ_cons, List.drop_zero, List.take_succ_cons, List.take_zero] at h0 h1
 obtain ⟨k0, e0, _⟩ := q4J Tryz.underlying3 h0
 simp only [List.cons.injEq, and_true] at e0
 subst e0
 obtain ⟨E, hE, gE⟩ := q7u (m := m) (f := LBlock.cells) (good := goodB) Tryz.underlying41 cells49 (by omega) (fun n cs y h w => block_rel (m := m) h w) h1 w1
 rw [slIf_av] at hE
 refine ⟨⟨k0, isL E⟩, fun b hb => ?_, .cons (.int _ _) (.cons hE .nil)⟩
 obtain ⟨l, hl, hxl⟩ := isL_mem hb
 exact (gE l hl).2 b hxl
def goodP (p : LProg) : Prop := ∀ f ∈ p.funcs.list, ∀ b ∈ f.blocks.list, goodB b
theorem prog_rel {v : Value} {d : DataW H} {pl : List MemPlace} (h : DataW.Trod enc Tryz.prog W 0 sp hd 25 v d pl) (hw : OkW Tryz.prog 25 d) : ∃ p : LProg, goodP p ∧ VRel Tryz.prog (Go.Ax.frozen W) m (.agg p.cells) v := by
 obtain ⟨n, h⟩ := h
 obtain ⟨hl, hf⟩ := q5t Tryz.underlying25 h hw
 rw [cells25] at hl
 have hv : ∃ a, v = .agg a := by
  cases v <;> first | exact ⟨_, rfl⟩ | (simp [Value.cells] at hl)
 obtain ⟨a, rfl⟩ := hv
 have hl : a.toList.length = 2 := hl
 obtain ⟨n0, y0, h0, w0⟩ : ∃ n y, DataW.trod enc Tryz.prog W 0 sp hd n 22 ((a.toList.drop 0).take (Tryz.prog.cellsOf 22)) = some y ∧ OkW Tryz.prog 22 y.1 := hf 0 _ rfl
 obtain ⟨n1, y1, h1, w1⟩ : ∃ n y, DataW.trod enc Tryz.prog W 0 sp hd n 23 ((a.toList.drop 1).take (Tryz.prog.cellsOf 23)) = some y ∧ OkW Tryz.prog 23 y.1 := hf 1 _ rfl
 clear hf h
 rw [cells22] at h0
 rw [cells23] at h1
 suffices key : ∃ p : LProg, goodP p ∧ LRel Tryz.prog (Go.Ax.frozen W) m p.cells a.toList by
  obtain ⟨p, h1, h2⟩ := key
  exact ⟨p, h1, LRel.agg h2⟩
 generalize a.toList = cs at hl h0 h1
 obtain ⟨c0, c1, rfl⟩ := len2' cs hl
 simp only [List.drop_succ_cons, List.drop_zero, List.take_succ_cons, List.take_zero] at h0 h1
 obtain ⟨t, ht⟩ := types_rel (m := m) h0 w0
 obtain ⟨E, hE, gE⟩ := q7u (m := m) (f := LFunc.cells) (good := fun q => ∀ b ∈ q.blocks.list, goodB b) Tryz.underlying23 cells43 (by omega) (fun n cs y h w => func_rel (m := m) h w) h1 w1
 rw [slIf_av] at hE
 refine ⟨⟨t, isL E⟩, fun f hf => ?_, .cons ht (.cons hE .nil)⟩
 obtain ⟨l, hl, hxl⟩ := isL_mem hf
 exact (gE l hl).2 f hxl
theorem goodP.ops {p : LProg} (h : goodP p) : OpsP p := ⟨fun f hf => ⟨fun b hb x hx => (h f hf b hb).2 x hx⟩⟩
end
end Go.Ax
namespace Go.Proofs.YtflfodegogjefaaGreatDoor
open Go.ChangeShapes Go.WideShapes Go.ChangeAt Go.WideMaps Go.WideElems Go.RowKit Go.Ax
abbrev laidR : List (String × DataW Unit) := [("fescue/shape.table", Rows.laid_fescue_shape_table)]
theorem own : ownKnob Tryz.prog.godebug = none := by kernel_rfl
theorem gTable : Tryz.prog.globalNamed "fescue/shape.table" = some 0 := by kernel_rfl
theorem door_met (os : Os) (args : Array Value) : laidMetH Tryz.prog laidR ((World.doorLaid Tryz.prog 500 os).forCall (fun _ _ => 0) ⟨#[], args, []⟩).memory :=
 laidMetH_of_parts3 (fuel := 8) (laidMet_of_run' 8 (by kernel_rfl) (by kernel_rfl)) (by kernel_rfl) (by kernel_rfl)
abbrev tabR : List (Nat × List AV) := [(0, q1s)]
abbrev eqR : List Nat := [q6o, q3x]
noncomputable abbrev kn : Knob := knob eqR []
noncomputable abbrev cx : Ctx := Ctx.of Tryz.prog (glOf tabR) kn
theorem flatR : flatD cx 4 (((Tryz.prog.globals[0]?).map (·.type)).getD 0) Rows.laid_fescue_shape_table = some q1s := by kernel_rfl
theorem known {W : World} (h : laidMetH Tryz.prog laidR W) : Known Tryz.prog W tabR := by
 have h' : laidMet Tryz.prog [("fescue/shape.table", Rows.laid_fescue_shape_table)] W := h
 obtain ⟨ps, ⟨g1, t1, cs1, fuel1, p1, q1, hg1, ht1, hv1, htr1, _, _⟩, _, _⟩ := h'
 obtain rfl := Option.some.inj (gTable.symm.trans hg1)
 intro g l hm
 cases List.mem_singleton.1 hm
 have hf := flatR
 rw [ht1] at hf
 simp only [World.var?, gTable, Option.bind_some] at hv1
 split at hv1
 case h_2 => cases hv1
 rename_i arr e fz hw
 cases hv1
 exact ⟨_, _, _, hw, fun m => flatD_rel 4 _ _ _ fuel1 _ p1 hf htr1⟩
theorem eqsR : (eqR.all (eqCheck Tryz.prog)) = true := by kernel_rfl
theorem namesR : (Tryz.prog.funcs.all fun fn => !(fn.body.isSome && fn.name == "runtime.NumGoroutine")) = true := by kernel_rfl
theorem mixedR : Tryz.prog.follows .mixedOrders = true := by kernel_rfl
theorem envR {W : World} (h : laidMetH Tryz.prog laidR W) : Env (Go.Ax.frozen W) (glOf tabR) kn :=
 ⟨pok_of (known h) eqsR namesR mixedR .nil, rfl, rfl, rfl, fun _ _ => rfl⟩
theorem laidOut : laidOutB Tryz.prog = true := by kernel_rfl
theorem mapsR : mapsRowed Tryz.prog = true := by kernel_rfl
theorem slicesR : ((List.range Tryz.prog.types.size).all fun t => match Tryz.prog.underlying t with | some (.slice e) => decide (0 < Tryz.prog.cellsOf e) | _ => true) = true := by kernel_rfl
theorem size26 : 26 < Tryz.prog.types.size := of_decide_eq_true (by kernel_rfl)
def zeroP : Value := .agg #[.slice none 0 0, .slice none 0 0]
set_option maxRecDepth 100000 in
set_option maxHeartbeats 4000000 in
theorem tidyDrops_lifted (os : Os) (started : os.Started) (H : Type) (enc : TypeId × Value → H) :
  ReturnsInHanded {} Tryz.checked os 3 .any (fun w args => (Rows.tidyDropsSpec.pre enc Tryz.prog Tryz.f3 [] false w args ∧ laidMetH Tryz.prog laidR w) ∧ sizedMet enc Tryz.prog Tryz.f3 (OpenSpec.ofChange Rows.tidyDropsSpec) false w args)
   (Rows.tidyDropsSpec.post enc Tryz.prog Tryz.f3 false true false false) := by
 refine returnsInHanded_of_change_and (C := Tryz.checked) (X := fun w _ => laidMetH Tryz.prog laidR w) (fun _ _ _ hh h => h.of_heap hh) own started (by as_aux_lemma => kernel_rfl) Tryz.func3
  (ChangeSpec.witness_shaped (enc := enc) (C := Tryz.checked) (os := os) (X := fun w _ => laidMetH Tryz.prog laidR w) false (World.doorLaid Tryz.prog 500 os) #[zeroP, .int .i64 0, .slice none 0 0] 8 rfl (World.shaped_of_RefB (by as_aux_lemma => kernel_rfl) (by as_aux_lemma => kernel_rfl)) (by as_aux_lemma => kernel_rfl) (by as_aux_lemma => kernel_rfl) (by as_aux_lemma => kernel_rfl) (door_met os _)) ?_
 intro W base args ds gs before hval0 hW _ hsz0 hL _
 have hW' := hW
 have hlt := fun p hp => hW'.lt p hp
 obtain ⟨p, q, hA0, hV, rfl, hfz, hnd⟩ := hW
 have hA : DataW.TrodAll enc Tryz.prog W 0 (fun _ => true) true Tryz.f3.params.toList args.toList ds p := hA0
 have hA1 := hA
 rw [Tryz.params3] at hA
 obtain ⟨rfl, rfl⟩ := trodVars_none hV
 have hsz : (DataW.weightsEach Tryz.prog (Tryz.f3.params.toList ++ []) (ds ++ [])).all (· ≤ reachBytes) = true := hsz0
 rw [Tryz.params3, List.append_nil, List.append_nil] at hsz
 obtain ⟨u, v0, w0, d, e, f, _, _, _, rfl, rfl, _, h1, h2, h3⟩ := trodAll_three hA
 obtain ⟨pr, gp, r1⟩ := prog_rel (m := ⟨fun _ => none, fun _ => none⟩) h1 (okW_of hsz (i := 0) rfl rfl)
 have hval : ∀ (j : Nat) t v, Tryz.f3.params[j]? = some t → #[u, v0, w0][j]? = some v → Value.okWide Tryz.prog W .any base t v := hval0
 rw [Tryz.params3] at hval
 obtain ⟨k, rfl⟩ := okWide_int Tryz.underlying3 (hval 1 3 v0 rfl rfl)
 obtain ⟨a0, len, cap, rfl⟩ := okWide_slice Tryz.underlying26 (hval 2 26 w0 rfl rfl)
 obtain ⟨nc, h3⟩ := h3
 have h3 : DataW.trod enc Tryz.prog W 0 (fun _ => true) true nc 26 [.slice a0 len cap] = some (f, _) := h3
 have ok3 : OkW Tryz.prog 26 f := okW_of hsz (i := 2) rfl rfl
 obtain ⟨l, r3⟩ := ints_rel (m := ⟨fun _ => none, fun _ => none⟩) h3 ok3
 refine (law_pure (.cons r1 (.cons (.int _ _) (.cons r3 .nil))) (TidyDrops_pure (envR hL) pr k l (fun f hf b hb => (gp f hf b hb).1) gp.ops)).mono fun e' W' ⟨he, hb⟩ => ?_
 subst he
 refine ⟨_, rfl, _, _, _, [], p, [], hW', ?_, ?_, ?_, hb.frame _, fun h => by cases h⟩
 ·exact trodAll_mk1 (shut_bool Tryz.underlying4 true)
 ·exact z1B laidOut mapsR slicesR hb (fun t ht => by
   rw [Tryz.params3] at ht
   have : t = 25 ∨ t = 3 ∨ t = 26 := by simpa using ht
   have h26 := size26
   rcases this with rfl | rfl | rfl
   ·exact Nat.lt_trans (by decide) h26
   ·exact Nat.lt_trans (by decide) h26
   ·exact h26) hA1 (fun x hx => hlt x (by simpa using hx))
 ·rfl
theorem and2 {a b : Bool} (h : a = true) (k : b = true) : (a && b) = true := by rw [h, k]; rfl
set_option maxHeartbeats 4000000 in
theorem tidyDrops_holds : Rows.TidyDropsSaid :=
  OpenClaim.holds_of_wide 3 Tryz.f3 rfl rfl rfl rfl rfl rfl rfl ⟨rfl, rfl, rfl, rfl, rfl⟩ rfl rfl rfl rfl rfl (by kernel_rfl) Tryz.func3 (by
      unfold joinedFacts
      repeat' (with_reducible refine and2 ?_ ?_)
      all_goals (as_aux_lemma => kernel_rfl))
    (of_decide_eq_true (by kernel_rfl)) (by unfold Func.isWrapper; first | (rw [if_pos (by decide +kernel)]; kernel_rfl) | (rw [if_neg (by decide +kernel)]; exact ⟨rfl, rfl⟩))
    (fun os started H enc _ => tidyDrops_lifted os started H enc)
set_option maxHeartbeats 4000000 in
theorem tidyDrops_card : Rows.TidyDropsCardSaid :=
  Claim7.holds_tied_plain_at .later [] [.data] true (true, "24b7330209ef5bdf40221580dc95b7274663cbcc0d8003592c214c84267ed3cd") true
    tidyDrops_holds (fun _ h => by cases h) (by as_aux_lemma => kernel_rfl) (fun _ h => by cases h) tidyDrops_row_tie rfl ⟨rfl, rfl⟩ (by as_aux_lemma => kernel_rfl) rfl
    (fun f fn hf hfn => by
      obtain rfl : f = 3 := Option.some.inj ((show Tryz.prog.funcNamed "fescue/fescuelaw27.TidyDrops" = some 3 by kernel_rfl).symm.trans hf) |>.symm
      obtain rfl : fn = Tryz.f3 := (Option.some.inj (Tryz.func3.symm.trans hfn)).symm
      exact ⟨by as_aux_lemma => kernel_rfl, fun j t ht => by
        rw [Tryz.params3] at ht
        have hm : t ∈ [25, 3, 26] := by simpa using Array.mem_of_getElem? ht
        have hall : ([25, 3, 26].all fun u => !Tryz.prog.wantsStandIn u) = true := by kernel_rfl
        exact (show Tryz.prog.wantsStandIn t = false by simpa using List.all_eq_true.1 hall t hm)⟩)
    (by as_aux_lemma => kernel_rfl)
end Go.Proofs.YtflfodegogjefaaGreatDoor
