/- WHAT IS PROVED: fescuelaw17.RunKeeps answers true for every two machines, and its arguments read behind the call as they read before. No condition. -/
import Derived.Test.YtpcggmonkdhfpaaRows
import Derived.Test.YtpcggmonkdhfpaaKc
namespace Go.Proofs.Ytpcggmonkdhfpaa
open Go.ChangeShapes Go.WideShapes Go.ChangeAt Go.WideMaps Go.WideElems Go.RowKit Go.Ax
theorem cells53 : Try.prog.cellsOf 31 = 2 := by kernel_rfl
theorem cells34 : Try.prog.cellsOf 28 = 10 := by kernel_rfl
theorem cells31 : Try.prog.cellsOf 25 = 1 := by kernel_rfl
theorem cells5 : Try.prog.cellsOf 5 = 1 := by kernel_rfl
theorem cells2 : Try.prog.cellsOf 2 = 1 := by kernel_rfl
theorem cells3 : Try.prog.cellsOf 3 = 1 := by kernel_rfl
theorem len2 {α : Type} : ∀ (l : List α), l.length = 2 → ∃ a b, l = [a, b]
  | [a, b], _ => ⟨a, b, rfl⟩
theorem len10 {α : Type} : ∀ (l : List α), l.length = 10 → ∃ a b c d e f g h i j, l = [a, b, c, d, e, f, g, h, i, j]
  | [a, b, c, d, e, f, g, h, i, j], _ => ⟨a, b, c, d, e, f, g, h, i, j, rfl⟩
section
variable {H : Type} {enc : TypeId × Value → H} {W : World} {sp : Nat → Bool} {hd : Bool} {m : Go.Ax.Loc}
def evC (p : Nat × Int) : List AV := [.int .u8 (.ofNat p.1), .int .i64 p.2]
theorem event_rel {n : Nat} {cs : List Value} {y : DataW H × List MemPlace} (h : DataW.trod enc Try.prog W 0 sp hd n 31 cs = some y) : ∃ q : Nat × Int, q.1 < 256 ∧ LRel Try.prog (Go.Ax.frozen W) m (evC q) cs := by
  obtain ⟨hl, hf⟩ := struct_rel Try.underlying31 h
  rw [cells53] at hl
  obtain ⟨c0, c1, rfl⟩ := len2 cs hl
  · obtain ⟨n0, y0, h0⟩ : ∃ n y, DataW.trod enc Try.prog W 0 sp hd n 5 (([c0, c1].drop 0).take (Try.prog.cellsOf 5)) = some y := hf 0 _ rfl
    obtain ⟨n1, y1, h1⟩ : ∃ n y, DataW.trod enc Try.prog W 0 sp hd n 2 (([c0, c1].drop 1).take (Try.prog.cellsOf 2)) = some y := hf 1 _ rfl
    rw [cells5] at h0
    rw [cells2] at h1
    obtain ⟨a, ha, hw⟩ := int_rel Try.underlying5 h0
    obtain ⟨b, hb, _⟩ := int_rel Try.underlying2 h1
    obtain ⟨k, rfl, hk⟩ := u8_nat hw
    simp only [List.drop_zero, List.take_succ_cons, List.take_zero, List.cons.injEq, and_true] at ha
    simp only [List.drop_succ_cons, List.drop_zero, List.take_succ_cons, List.take_zero, List.cons.injEq, and_true] at hb
    subst ha hb
    exact ⟨(k, b), hk, .cons (.int _ _) (.cons (.int _ _) .nil)⟩
theorem events_rel {n : Nat} {v : Value} {y : DataW H × List MemPlace} (h : DataW.trod enc Try.prog W 0 sp hd n 25 [v] = some y) : ∃ E, okEv E ∧ VRel Try.prog (Go.Ax.frozen W) m (ev E) v := by
  obtain ⟨E, h1, h2⟩ := slice_rel (m := m) (f := evC) (good := fun q => q.1 < 256) Try.underlying25 cells53 (by omega) (fun n cs y h => event_rel h) h
  refine ⟨E, ?_, ?_⟩
  · intro p hp
    cases E with
    | none => cases hp
    | some l => exact h2 l rfl p hp
  · cases E <;> exact h1
theorem mach_rel {v : Value} {d : DataW H} {p : List MemPlace} (h : DataW.Trod enc Try.prog W 0 sp hd 28 v d p) : ∃ E hp st ex, okEv E ∧ VRel Try.prog (Go.Ax.frozen W) m (.agg (mach .undef .undef .undef .undef E .undef hp st .undef ex)) v := by
  obtain ⟨n, h⟩ := h
  obtain ⟨hl, hf⟩ := struct_rel Try.underlying28 h
  rw [cells34] at hl
  have hv : ∃ a, v = .agg a := by
    cases v <;> first | exact ⟨_, rfl⟩ | (simp [Value.cells] at hl)
  obtain ⟨a, rfl⟩ := hv
  have hl : a.toList.length = 10 := hl
  obtain ⟨n4, y4, h4⟩ : ∃ n y, DataW.trod enc Try.prog W 0 sp hd n 25 ((a.toList.drop 4).take (Try.prog.cellsOf 25)) = some y := hf 4 _ rfl
  obtain ⟨n6, y6, h6⟩ : ∃ n y, DataW.trod enc Try.prog W 0 sp hd n 3 ((a.toList.drop 6).take (Try.prog.cellsOf 3)) = some y := hf 6 _ rfl
  obtain ⟨n7, y7, h7⟩ : ∃ n y, DataW.trod enc Try.prog W 0 sp hd n 5 ((a.toList.drop 7).take (Try.prog.cellsOf 5)) = some y := hf 7 _ rfl
  obtain ⟨n9, y9, h9⟩ : ∃ n y, DataW.trod enc Try.prog W 0 sp hd n 2 ((a.toList.drop 9).take (Try.prog.cellsOf 2)) = some y := hf 9 _ rfl
  clear hf h
  rw [cells31] at h4
  rw [cells3] at h6
  rw [cells5] at h7
  rw [cells2] at h9
  suffices key : ∃ E hp st ex, okEv E ∧ LRel Try.prog (Go.Ax.frozen W) m (mach .undef .undef .undef .undef E .undef hp st .undef ex) a.toList by
    obtain ⟨E, hp, st, ex, h1, h2⟩ := key
    exact ⟨E, hp, st, ex, h1, LRel.agg h2⟩
  generalize a.toList = cs at hl h4 h6 h7 h9
  obtain ⟨c0, c1, c2, c3, c4, c5, c6, c7, c8, c9, rfl⟩ := len10 cs hl
  · simp only [List.drop_succ_cons, List.drop_zero, List.take_succ_cons, List.take_zero] at h4 h6 h7 h9
    obtain ⟨E, hE, hr⟩ := events_rel (m := m) h4
    obtain ⟨hp, e6, _⟩ := int_rel Try.underlying3 h6
    obtain ⟨st, e7, hw⟩ := int_rel Try.underlying5 h7
    obtain ⟨ex, e9, _⟩ := int_rel Try.underlying2 h9
    obtain ⟨k, rfl, _⟩ := u8_nat hw
    simp only [List.cons.injEq, and_true] at e6 e7 e9
    subst e6 e7 e9
    exact ⟨E, hp, k, ex, hE, .cons (.undef _) <| .cons (.undef _) <| .cons (.undef _) <| .cons (.undef _) <| .cons hr <| .cons (.undef _) <| .cons (.int _ _) <| .cons (.int _ _) <| .cons (.undef _) <| .cons (.int _ _) .nil⟩
end

theorem own : ownKnob Try.prog.godebug = none := by kernel_rfl
theorem laidOut : laidOutB Try.prog = true := by kernel_rfl
theorem mapsR : mapsRowed Try.prog = true := by kernel_rfl
theorem slicesR : ((List.range Try.prog.types.size).all fun t => match Try.prog.underlying t with | some (.slice e) => decide (0 < Try.prog.cellsOf e) | _ => true) = true := by kernel_rfl
theorem size28 : 28 < Try.prog.types.size := of_decide_eq_true (by kernel_rfl)
abbrev eqK : List Nat := [31, 32]
theorem eqsK : (eqK.all (eqCheck Try.prog)) = true := by kernel_rfl
theorem namesK : (Try.prog.funcs.all fun fn => !(fn.body.isSome && fn.name == "runtime.NumGoroutine")) = true := by kernel_rfl
theorem mixedK : Try.prog.follows .mixedOrders = true := by kernel_rfl
theorem pokK {W : World} : POk Try.prog (Go.Ax.frozen W) (glOf []) (knob eqK []) := pok_of (fun g l h => by cases h) eqsK namesK mixedK AllPure.nil
theorem law_run {ea eb : Option (List (Nat × Int))} {ha hb xa xb : Int} {sa sb : Nat} (oa : okEv ea) (ob : okEv eb) :
    ∃ n h', call Try.prog (Ctx.of Try.prog (glOf []) (knob eqK [])) n 3 [.agg (mach .undef .undef .undef .undef ea .undef ha sa .undef xa), .agg (mach .undef .undef .undef .undef eb .undef hb sb .undef xb)] h0 = some (.val (.bool true) h') := by
  obtain ⟨n, h', h1, _⟩ := callsTo_of (C := Ctx.of Try.prog (glOf []) (knob eqK [])) (f := 3) (args := [.agg (mach .undef .undef .undef .undef ea .undef ha sa .undef xa), .agg (mach .undef .undef .undef .undef eb .undef hb sb .undef xb)]) (v := .bool true) fn3 body3 rfl rfl (fun h hlo => by
    refine Wp.mono (law_wp (a0 := .undef) (a1 := .undef) (a2 := .undef) (a3 := .undef) (a5 := .undef) (a8 := .undef) (b0 := .undef) (b1 := .undef) (b2 := .undef) (b3 := .undef) (b5 := .undef) (b8 := .undef) (ha := ha) (hb := hb) (xa := xa) (xb := xb) (sa := sa) (sb := sb) rfl rfl (fun _ => rfl) (fun _ => rfl) oa ob h _ hlo (at_args fun t v ht => lk2 ht)) fun e s' hs => ?_
    obtain ⟨he, g, hg, hat⟩ := hs
    refine ⟨he, hat.ds, by rw [hat.h]; exact hg, [.bool true], ?_, rfl⟩
    show (match resultsA (Ctx.of Try.prog (glOf []) (knob eqK [])) s' [] with | some vs => some (tget s'.tm 4 :: vs) | none => none) = _
    rw [hat.tm 4 _ rfl]; rfl) h0 (Nat.le_refl 0)
  exact ⟨n, h', h1⟩
def zeroM : Value := .agg #[.slice none 0 0, .slice none 0 0, .slice none 0 0, .int .i64 0, .slice none 0 0, .int .i64 0, .int .i64 0, .int .u8 0, .int .i64 0, .int .i64 0]
set_option maxRecDepth 100000 in
set_option maxHeartbeats 4000000 in
theorem runKeeps_lifted (os : Os) (started : os.Started) (H : Type) (enc : TypeId × Value → H) :
    ReturnsInHanded {} Try.checked os 3 .any (Rows.runKeepsSpec.pre6 enc Try.prog Try.f3 Rows.runKeepsRow.domain false) (Rows.runKeepsSpec.post enc Try.prog Try.f3 false true false false) := by
  refine returnsInHanded_of_change (C := Try.checked) own started (by kernel_rfl) Try.func3
    (ChangeSpec.witness6 (enc := enc) (C := Try.checked) false ⟨#[], #[zeroM, zeroM], []⟩ 8 (by kernel_rfl) (by kernel_rfl) (by kernel_rfl) (by kernel_rfl)) ?_
  intro W base args ds gs before hval0 hW _ _
  have hW' := hW
  have hlt := fun p hp => hW'.lt p hp
  obtain ⟨p, q, hA0, hV, rfl, hfz, hnd⟩ := hW
  have hA : DataW.TrodAll enc Try.prog W 0 (fun _ => true) true Try.f3.params.toList args.toList ds p := hA0
  have hA1 := hA
  rw [Try.params3] at hA
  obtain ⟨rfl, rfl⟩ := trodVars_none hV
  obtain ⟨u, v, d, e, _, _, rfl, rfl, _, h1, h2⟩ := trodAll_two hA
  obtain ⟨ea, ha, sa, xa, oa, r1⟩ := mach_rel (m := ⟨fun _ => none, fun _ => none⟩) h1
  obtain ⟨eb, hb, sb, xb, ob, r2⟩ := mach_rel (m := ⟨fun _ => none, fun _ => none⟩) h2
  obtain ⟨n, h', hc⟩ := law_run (ha := ha) (hb := hb) (xa := xa) (xb := xb) (sa := sa) (sb := sb) oa ob
  refine (law_call pokK (.cons r1 (.cons r2 .nil)) hc).mono fun e' W' ⟨he, hb⟩ => ?_
  subst he
  refine ⟨_, rfl, _, _, _, [], p, [], hW', ?_, ?_, ?_, hb.frame _, fun h => by cases h⟩
  · exact trodAll_mk1 (shut_bool Try.underlying4 true)
  · exact trodAll_stays laidOut mapsR slicesR hb (fun t ht => by
      rw [Try.params3] at ht
      have : t = 28 := by simpa using ht
      rw [this]; exact size28) hA1 (fun x hx => hlt x (by simpa using hx))
  · rfl
theorem runKeeps_holds : Rows.RunKeepsSaid :=
  OpenClaim.holds_of_wide 3 Try.f3 rfl rfl rfl rfl rfl rfl rfl ⟨rfl, rfl, rfl, rfl, rfl⟩ rfl rfl rfl rfl rfl (by kernel_rfl) Try.func3 (by kernel_rfl)
    (of_decide_eq_true (by kernel_rfl)) (by unfold Func.isWrapper; first | (rw [if_pos (by decide +kernel)]; kernel_rfl) | (rw [if_neg (by decide +kernel)]; exact ⟨rfl, rfl⟩))
    (fun os started H enc _ => runKeeps_lifted os started H enc)
#print axioms runKeeps_holds
end Go.Proofs.Ytpcggmonkdhfpaa
