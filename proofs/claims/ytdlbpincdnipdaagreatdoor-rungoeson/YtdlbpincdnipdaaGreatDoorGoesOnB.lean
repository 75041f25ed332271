/- RunGoesOn: the row's reading, and the walk. -/
import Derived.Test.YtdlbpincdnipdaaGreatDoorGoesOnW
import Derived.Test.YtdlbpincdnipdaaGreatDoorGoesOnR
namespace Go.Proofs.YtdlbpincdnipdaaGreatDoor
open Go.ChangeShapes Go.WideShapes Go.ChangeAt Go.WideMaps Go.WideElems Go.RowKit Go.Ax

abbrev tab4 : Tab := (18, [], .bool true) :: tab3
theorem pure4 {W : World} (h : laidMetH Tryz.prog laidR W) : AllPure Tryz.prog (Go.Ax.frozen W) tab4 := .cons (pure_of_run (pok h (pure3 h)) rfl run_alive) (pure3 h)
theorem cells53 : Tryz.prog.cellsOf 53 = 2 := by kernel_rfl
theorem cells34 : Tryz.prog.cellsOf 34 = 10 := by kernel_rfl
theorem cells31 : Tryz.prog.cellsOf 31 = 1 := by kernel_rfl
theorem cells5 : Tryz.prog.cellsOf 5 = 1 := by kernel_rfl
theorem cells2 : Tryz.prog.cellsOf 2 = 1 := by kernel_rfl
theorem cells3 : Tryz.prog.cellsOf 3 = 1 := by kernel_rfl
theorem len2 {α : Type} : ∀ (l : List α), l.length = 2 → ∃ a b, l = [a, b]
  | [a, b], _ => ⟨a, b, rfl⟩
theorem len10 {α : Type} : ∀ (l : List α), l.length = 10 → ∃ a b c d e f g h i j, l = [a, b, c, d, e, f, g, h, i, j]
  | [a, b, c, d, e, f, g, h, i, j], _ => ⟨a, b, c, d, e, f, g, h, i, j, rfl⟩
section
variable {H : Type} {enc : TypeId × Value → H} {W : World} {sp : Nat → Bool} {hd : Bool} {m : Go.Ax.Loc}
def evC (p : Nat × Int) : List AV := [.int .u8 (.ofNat p.1), .int .i64 p.2]
theorem event_rel {n : Nat} {cs : List Value} {y : DataW H × List MemPlace} (h : DataW.trod enc Tryz.prog W 0 sp hd n 53 cs = some y) : ∃ q : Nat × Int, q.1 < 256 ∧ LRel Tryz.prog (Go.Ax.frozen W) m (evC q) cs := by
  obtain ⟨hl, hf⟩ := struct_rel Tryz.underlying53 h
  rw [cells53] at hl
  obtain ⟨c0, c1, rfl⟩ := len2 cs hl
  · obtain ⟨n0, y0, h0⟩ : ∃ n y, DataW.trod enc Tryz.prog W 0 sp hd n 5 (([c0, c1].drop 0).take (Tryz.prog.cellsOf 5)) = some y := hf 0 _ rfl
    obtain ⟨n1, y1, h1⟩ : ∃ n y, DataW.trod enc Tryz.prog W 0 sp hd n 2 (([c0, c1].drop 1).take (Tryz.prog.cellsOf 2)) = some y := hf 1 _ rfl
    rw [cells5] at h0
    rw [cells2] at h1
    obtain ⟨a, ha, hw⟩ := int_rel Tryz.underlying5 h0
    obtain ⟨b, hb, _⟩ := int_rel Tryz.underlying2 h1
    obtain ⟨k, rfl, hk⟩ := u8_nat hw
    simp only [List.drop_zero, List.take_succ_cons, List.take_zero, List.cons.injEq, and_true] at ha
    simp only [List.drop_succ_cons, List.drop_zero, List.take_succ_cons, List.take_zero, List.cons.injEq, and_true] at hb
    subst ha hb
    exact ⟨(k, b), hk, .cons (.int _ _) (.cons (.int _ _) .nil)⟩
theorem events_rel {n : Nat} {v : Value} {y : DataW H × List MemPlace} (h : DataW.trod enc Tryz.prog W 0 sp hd n 31 [v] = some y) : ∃ E, okEv E ∧ VRel Tryz.prog (Go.Ax.frozen W) m (ev E) v := by
  obtain ⟨E, h1, h2⟩ := slice_rel (m := m) (f := evC) (good := fun q => q.1 < 256) Tryz.underlying31 cells53 (by omega) (fun n cs y h => event_rel h) h
  refine ⟨E, ?_, ?_⟩
  · intro p hp
    cases E with
    | none => cases hp
    | some l => exact h2 l rfl p hp
  · cases E <;> exact h1
theorem mach_rel {v : Value} {d : DataW H} {p : List MemPlace} (h : DataW.Trod enc Tryz.prog W 0 sp hd 34 v d p) : ∃ E hp st ex, okEv E ∧ VRel Tryz.prog (Go.Ax.frozen W) m (.agg (mach .undef .undef .undef .undef E .undef hp st .undef ex)) v := by
  obtain ⟨n, h⟩ := h
  obtain ⟨hl, hf⟩ := struct_rel Tryz.underlying34 h
  rw [cells34] at hl
  have hv : ∃ a, v = .agg a := by
    cases v <;> first | exact ⟨_, rfl⟩ | (simp [Value.cells] at hl)
  obtain ⟨a, rfl⟩ := hv
  have hl : a.toList.length = 10 := hl
  obtain ⟨n4, y4, h4⟩ : ∃ n y, DataW.trod enc Tryz.prog W 0 sp hd n 31 ((a.toList.drop 4).take (Tryz.prog.cellsOf 31)) = some y := hf 4 _ rfl
  obtain ⟨n6, y6, h6⟩ : ∃ n y, DataW.trod enc Tryz.prog W 0 sp hd n 3 ((a.toList.drop 6).take (Tryz.prog.cellsOf 3)) = some y := hf 6 _ rfl
  obtain ⟨n7, y7, h7⟩ : ∃ n y, DataW.trod enc Tryz.prog W 0 sp hd n 5 ((a.toList.drop 7).take (Tryz.prog.cellsOf 5)) = some y := hf 7 _ rfl
  obtain ⟨n9, y9, h9⟩ : ∃ n y, DataW.trod enc Tryz.prog W 0 sp hd n 2 ((a.toList.drop 9).take (Tryz.prog.cellsOf 2)) = some y := hf 9 _ rfl
  clear hf h
  rw [cells31] at h4
  rw [cells3] at h6
  rw [cells5] at h7
  rw [cells2] at h9
  suffices key : ∃ E hp st ex, okEv E ∧ LRel Tryz.prog (Go.Ax.frozen W) m (mach .undef .undef .undef .undef E .undef hp st .undef ex) a.toList by
    obtain ⟨E, hp, st, ex, h1, h2⟩ := key
    exact ⟨E, hp, st, ex, h1, LRel.agg h2⟩
  generalize a.toList = cs at hl h4 h6 h7 h9
  obtain ⟨c0, c1, c2, c3, c4, c5, c6, c7, c8, c9, rfl⟩ := len10 cs hl
  · simp only [List.drop_succ_cons, List.drop_zero, List.take_succ_cons, List.take_zero] at h4 h6 h7 h9
    obtain ⟨E, hE, hr⟩ := events_rel (m := m) h4
    obtain ⟨hp, e6, _⟩ := int_rel Tryz.underlying3 h6
    obtain ⟨st, e7, hw⟩ := int_rel Tryz.underlying5 h7
    obtain ⟨ex, e9, _⟩ := int_rel Tryz.underlying2 h9
    obtain ⟨k, rfl, _⟩ := u8_nat hw
    simp only [List.cons.injEq, and_true] at e6 e7 e9
    subst e6 e7 e9
    exact ⟨E, hp, k, ex, hE, .cons (.undef _) <| .cons (.undef _) <| .cons (.undef _) <| .cons (.undef _) <| .cons hr <| .cons (.undef _) <| .cons (.int _ _) <| .cons (.int _ _) <| .cons (.undef _) <| .cons (.int _ _) .nil⟩
end
theorem orc22 : ∀ zs, (kn tab4).orc 22 zs = none := fun _ => rfl
theorem goesOn_call {ea eb ed : Option (List (Nat × Int))} {ha hb hd xa xb xd : Int} {sa sb sd : Nat} (oa : okEv ea) (ob : okEv eb) (od : okEv ed) :
    ∃ n h', call Tryz.prog (cx tab4) n 7 [.agg (mach .undef .undef .undef .undef ea .undef ha sa .undef xa), .agg (mach .undef .undef .undef .undef eb .undef hb sb .undef xb), .agg (mach .undef .undef .undef .undef ed .undef hd sd .undef xd)] h0 = some (.val (.bool true) h') := by
  obtain ⟨n, h', h1, _⟩ := callsTo_of (C := cx tab4) (f := 7) (args := [.agg (mach .undef .undef .undef .undef ea .undef ha sa .undef xa), .agg (mach .undef .undef .undef .undef eb .undef hb sb .undef xb), .agg (mach .undef .undef .undef .undef ed .undef hd sd .undef xd)]) (v := .bool true) fn7 body7 rfl rfl (fun h hlo => by
    refine Wp.mono (goesOn_wp (a0 := .undef) (a1 := .undef) (a2 := .undef) (a3 := .undef) (a5 := .undef) (a8 := .undef) (b0 := .undef) (b1 := .undef) (b2 := .undef) (b3 := .undef) (b5 := .undef) (b8 := .undef) (d0 := .undef) (d1 := .undef) (d2 := .undef) (d3 := .undef) (d5 := .undef) (d8 := .undef) (ha := ha) (hb := hb) (hd := hd) (xa := xa) (xb := xb) (xd := xd) (sa := sa) (sb := sb) (sd := sd) rfl orc22 rfl oa ob od h _ hlo (at_args fun t v ht => ?_)) fun e s' hs => ?_
    · unfold lk at ht
      cases h0 : Nat.beq 0 t with
      | true => rw [h0] at ht; cases ht; rw [← Nat.eq_of_beq_eq_true h0]; rfl
      | false =>
        rw [h0] at ht
        dsimp only [cond] at ht
        unfold lk at ht
        cases h1 : Nat.beq 1 t with
        | true => rw [h1] at ht; cases ht; rw [← Nat.eq_of_beq_eq_true h1]; rfl
        | false =>
          rw [h1] at ht
          dsimp only [cond] at ht
          unfold lk at ht
          cases h2 : Nat.beq 2 t with
          | true => rw [h2] at ht; cases ht; rw [← Nat.eq_of_beq_eq_true h2]; rfl
          | false => rw [h2] at ht; cases ht
    · obtain ⟨he, g, hg, hat⟩ := hs
      refine ⟨he, hat.ds, by rw [hat.h]; exact hg, [.bool true], ?_, rfl⟩
      show (match resultsA (cx tab4) s' [] with | some vs => some (tget s'.tm 6 :: vs) | none => none) = _
      rw [hat.tm 6 _ rfl]; rfl) h0 (Nat.le_refl 0)
  exact ⟨n, h', h1⟩
end Go.Proofs.YtdlbpincdnipdaaGreatDoor
