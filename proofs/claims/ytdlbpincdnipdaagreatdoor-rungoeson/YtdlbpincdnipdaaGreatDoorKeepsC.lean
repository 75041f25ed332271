/- A call of run.Keeps. -/
import Derived.Test.YtdlbpincdnipdaaGreatDoorKeeps
namespace Go.Proofs.YtdlbpincdnipdaaGreatDoor
open Go.ChangeShapes Go.WideShapes Go.ChangeAt Go.WideMaps Go.WideElems Go.RowKit Go.Ax
variable {gl : Nat → AV} {K : Knob}
variable {a0 a1 a2 a3 a5 a8 b0 b1 b2 b3 b5 b8 : AV} {ea eb : Option (List (Nat × Int))} {ha hb xa xb : Int} {sa sb : Nat}
theorem body22 : Tryz.f22.body = some (bodyOf Tryz.f22) := rfl
/-- A call of Keeps. -/
theorem keeps_call (hq : K.eqT 108 = true) (ho : ∀ zs, K.orc 22 zs = none) (hl : (evl ea).length ≤ 200) (oa : okEv ea) (ob : okEv eb) (h : Hp) (hlo : h.lo ≤ h.nx) :
    ∃ n h', call Tryz.prog (C0 gl K) n 22 [.agg (mach a0 a1 a2 a3 ea a5 ha sa a8 xa), .agg (mach b0 b1 b2 b3 eb b5 hb sb b8 xb)] h = some (.val (.bool (keepsB (evl ea) (evl eb) sa sb ha hb xa xb)) h') ∧ Grow h h' := by
  refine callsTo_of fn22 body22 (ho _) rfl (fun h hlo => ?_) h hlo
  refine Wp.mono (keeps_wp (a0 := a0) (a1 := a1) (a2 := a2) (a3 := a3) (a5 := a5) (a8 := a8) (b0 := b0) (b1 := b1) (b2 := b2) (b3 := b3) (b5 := b5) (b8 := b8) (ha := ha) (hb := hb) (xa := xa) (xb := xb) (sa := sa) (sb := sb) hq hl oa ob h _ hlo (at_args fun t v ht => ?_)) fun e s' hs => ?_
  · unfold lk at ht
    cases h0 : Nat.beq 0 t with
    | true => rw [h0] at ht; cases ht; rw [← Nat.eq_of_beq_eq_true h0]; rfl
    | false =>
      rw [h0] at ht
      dsimp only [cond] at ht
      unfold lk at ht
      cases h1 : Nat.beq 1 t with
      | true => rw [h1] at ht; cases ht; rw [← Nat.eq_of_beq_eq_true h1]; rfl
      | false => rw [h1] at ht; cases ht
  · obtain ⟨he, g, hg, hat⟩ := hs
    refine ⟨he, hat.ds, by rw [hat.h]; exact hg, [.bool (keepsB (evl ea) (evl eb) sa sb ha hb xa xb)], ?_, rfl⟩
    show (match resultsA (C0 gl K) s' [] with | some vs => some (tget s'.tm 4 :: vs) | none => none) = _
    rw [hat.tm 4 _ rfl]; rfl
end Go.Proofs.YtdlbpincdnipdaaGreatDoor
