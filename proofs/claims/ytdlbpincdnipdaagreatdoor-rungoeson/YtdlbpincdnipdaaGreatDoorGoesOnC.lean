/- RunGoesOn, part C: the row's reading, and the walk. -/
import Derived.Test.YtdlbpincdnipdaaGreatDoorGoesOnB
namespace Go.Proofs.YtdlbpincdnipdaaGreatDoor
open Go.ChangeShapes Go.WideShapes Go.ChangeAt Go.WideMaps Go.WideElems Go.RowKit Go.Ax

theorem laidOut : laidOutB Tryz.prog = true := by kernel_rfl
theorem mapsR : mapsRowed Tryz.prog = true := by kernel_rfl
theorem slicesR : ((List.range Tryz.prog.types.size).all fun t => match Tryz.prog.underlying t with | some (.slice e) => decide (0 < Tryz.prog.cellsOf e) | _ => true) = true := by kernel_rfl
theorem size34 : 34 < Tryz.prog.types.size := of_decide_eq_true (by kernel_rfl)
def zeroM : Value := .agg #[.slice none 0 0, .slice none 0 0, .slice none 0 0, .int .i64 0, .slice none 0 0, .int .i64 0, .int .i64 0, .int .u8 0, .int .i64 0, .int .i64 0]
set_option maxRecDepth 100000 in
set_option maxHeartbeats 4000000 in
theorem runGoesOn_lifted (os : Os) (started : os.Started) (H : Type) (enc : TypeId × Value → H) :
    ReturnsInHanded {} Tryz.checked os 7 .any (fun w args => (Rows.runGoesOnSpec.pre enc Tryz.prog Tryz.f7 [] false w args ∧ laidMetH Tryz.prog laidR w) ∧ sizedMet enc Tryz.prog Tryz.f7 (OpenSpec.ofChange Rows.runGoesOnSpec) false w args)
      (Rows.runGoesOnSpec.post enc Tryz.prog Tryz.f7 false true false false) := by
  refine returnsInHanded_of_change_and (C := Tryz.checked) (X := fun w _ => laidMetH Tryz.prog laidR w) (fun _ _ _ hh h => h.of_heap hh) own started (by as_aux_lemma => kernel_rfl) Tryz.func7
    (ChangeSpec.witness_shaped (enc := enc) (C := Tryz.checked) (os := os) (X := fun w _ => laidMetH Tryz.prog laidR w) false (World.doorLaid Tryz.prog 43 os) #[zeroM, zeroM, zeroM] 8 rfl (World.shaped_of_RefB (by as_aux_lemma => kernel_rfl) (by as_aux_lemma => kernel_rfl)) (by as_aux_lemma => kernel_rfl) (by as_aux_lemma => kernel_rfl) (by as_aux_lemma => kernel_rfl) (door_met os _)) ?_
  intro W base args ds gs before hval0 hW _ _ hL _
  have hW' := hW
  have hlt := fun p hp => hW'.lt p hp
  obtain ⟨p, q, hA0, hV, rfl, hfz, hnd⟩ := hW
  have hA : DataW.TrodAll enc Tryz.prog W 0 (fun _ => true) true Tryz.f7.params.toList args.toList ds p := hA0
  have hA1 := hA
  rw [Tryz.params7] at hA
  obtain ⟨rfl, rfl⟩ := trodVars_none hV
  obtain ⟨u, v, w, d, e, f, _, _, _, rfl, rfl, _, h1, h2, h3⟩ := trodAll_three hA
  obtain ⟨ea, ha, sa, xa, oa, r1⟩ := mach_rel (m := ⟨fun _ => none, fun _ => none⟩) h1
  obtain ⟨eb, hb, sb, xb, ob, r2⟩ := mach_rel (m := ⟨fun _ => none, fun _ => none⟩) h2
  obtain ⟨ed, hd, sd, xd, od, r3⟩ := mach_rel (m := ⟨fun _ => none, fun _ => none⟩) h3
  obtain ⟨n, h', hc⟩ := goesOn_call (ha := ha) (hb := hb) (hd := hd) (xa := xa) (xb := xb) (xd := xd) (sa := sa) (sb := sb) (sd := sd) oa ob od
  refine (law_call (pok hL (pure4 hL)) (.cons r1 (.cons r2 (.cons r3 .nil))) hc).mono fun e' W' ⟨he, hb⟩ => ?_
  subst he
  refine ⟨_, rfl, _, _, _, [], p, [], hW', ?_, ?_, ?_, hb.frame _, fun h => by cases h⟩
  · exact trodAll_mk1 (shut_bool Tryz.underlying4 true)
  · exact trodAll_stays laidOut mapsR slicesR hb (fun t ht => by
      rw [Tryz.params7] at ht
      have : t = 34 := by simpa using ht
      rw [this]; exact size34) hA1 (fun x hx => hlt x (by simpa using hx))
  · rfl
end Go.Proofs.YtdlbpincdnipdaaGreatDoor
