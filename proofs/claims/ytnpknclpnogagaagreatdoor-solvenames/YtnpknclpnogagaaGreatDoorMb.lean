/- THE ABSTRACT MACHINE AND WHY IT IS RIGHT, part b. Nothing is assumed. -/
import Derived.Test.YtnpknclpnogagaaGreatDoorMa
import Derived.RangeFuncLeaves
import Derived.Laws.MakeOwn
import Derived.Laws.AppendOwn
import Derived.RangeFuncIn
import Derived.OrdersIn
import Derived.Laws.BytesArg
import Derived.Lib.UnsafeStr
import Derived.RecoverIn
set_option linter.unusedSimpArgs false
set_option linter.unusedVariables false
/- How a frame leaves whose deferred calls are functions' calls, marks and built-in ones. Nothing is assumed. -/
namespace Go
variable {P : Program} {F : Fence} {n : Nat}
/-- A frame on its way out does a built-in call: one step. -/
theorem step_built {fr : Frame} {cs : List Frame} {w w' : World} {d : Deferred} {b : Builtin} {ts : Array TypeId} {ty : TypeId} {k : Array Bool} {v : Value} {ds : List Deferred}
    (hm : fr.mode ≠ .run) (hd : fr.defers = d :: ds) (ht : d.target = .builtin b ts ty k) (hi : (invoke d.target d.args).run P w = .ok (.value v) w') :
    step P (lone fr cs w) = .next (lone { fr with defers := ds } cs w') := by
  obtain ⟨t, a⟩ := d
  simp only at ht
  subst ht
  refine step_lone_go ?_
  cases hmode : fr.mode with
  | run => exact absurd hmode hm
  | returning => simp [stepG, unwind, callDeferred, hmode, hd, Sem.runT_eq, hi, GStep.bare_after]
  | panicking chain => simp [stepG, unwind, callDeferred, hmode, hd, Sem.runT_eq, hi, GStep.bare_after]
/-- What is left to do, from the deferred calls on. -/
def LeavesB (F : Fence) (n : Nat) (P : Program) (fn : Func) (tmps : Array Value) (R : Ending → World → Prop) : List Deferred → FrameMode → World → Prop
  | [], u, w => LeavesIn F n P fn tmps R [] u w
  | d :: ds, u, w => u ≠ .run ∧
      ((∃ r w', d.target = .collected r ∧ (Instr.takeDeferred r).run P w = .ok [] w' ∧ LeavesB F n P fn tmps R ds u w') ∨
       (∃ b ts ty k v w', d.target = .builtin b ts ty k ∧ (invoke d.target d.args).run P w = .ok (.value v) w' ∧ LeavesB F n P fn tmps R ds u w') ∨
       ((F.depth.isSome = true → 1 ≤ n) ∧ ∃ fv cap f args, d.target = .fn fv cap ∧ (invoke d.target d.args).run P w = .ok (.enter f args) w ∧ (∀ g, d.target.leads P w d.args = some g → F.fn g) ∧
        CallsDIn F (n - 1) P f args u w fun e u' w' => match e with
          | .returned _ => LeavesB F n P fn tmps R ds (settle u') w'
          | .panicked chain => LeavesB F n P fn tmps R ds (raised u' chain) w'
          | .outgrown => R .outgrown w'))
theorem leaves_stepsB {fn : Func} {tmps : Array Value} {R : Ending → World → Prop} : ∀ (ds : List Deferred) (u : FrameMode) (w : World) (fr : Frame)
    (cs : List Frame), fr.mode = u → fr.defers = ds → fr.tmps = tmps → P.funcs[fr.fn]? = some fn → fr.kind = .normal → F.fn fr.fn → F.room (cs.length + 1 + n) → LeavesB F n P fn tmps R ds u w →
    ∃ e w' fr', R e w' ∧ ComesIn (Machine.fenced P F) P (lone fr cs w) (lone fr' cs w') e ∧ fr'.fn = fr.fn ∧ fr'.leaving P w' e
  | [], u, w, fr, cs, hu, hd, ht, hf, hk, hb, hroom, h => leaves_stepsIn [] u w fr cs hu hd ht hf hk hb hroom h
  | d :: ds, u, w, fr, cs, hu, hd, ht, hf, hk, hb, hroom, h => by
    obtain ⟨hrun, h⟩ := h
    have hrun' : fr.mode ≠ .run := hu ▸ hrun
    rcases h with ⟨r, w', htar, htake, hrest⟩ | ⟨b, ts, ty, k, v, w', htar, hinv, hrest⟩ | ⟨hn, fv, cap, f, args, htar, hinv, hlead, hFf, hcall⟩
    · have out := fenced_out (P := P) (w := w) hb hroom hrun' hd (fun g hg => by rw [htar] at hg; simp [Target.leads] at hg)
      obtain ⟨e', w2, fr', h1, h2, h3, h4⟩ := leaves_stepsB ds u w' { fr with defers := [] ++ ds } cs hu rfl ht hf hk hb hroom hrest
      exact ⟨e', w2, fr', h1, ComesIn.of_steps (.one out (step_collected (cs := cs) hrun' hd htar htake)) h2, h3, h4⟩
    · have out := fenced_out (P := P) (w := w) hb hroom hrun' hd (fun g hg => by rw [htar] at hg; simp [Target.leads] at hg)
      obtain ⟨e', w2, fr', h1, h2, h3, h4⟩ := leaves_stepsB ds u w' { fr with defers := ds } cs hu rfl ht hf hk hb hroom hrest
      exact ⟨e', w2, fr', h1, ComesIn.of_steps (.one out (step_built (cs := cs) hrun' hd htar hinv)) h2, h3, h4⟩
    · have out := fenced_out (P := P) hb hroom hrun' hd hlead
      have go := step_defer (cs := cs) hrun' hd htar hinv
      have room : F.room (({ fr with defers := ds } :: cs).length + 1 + (n - 1)) := Fence.room_enter hroom hn
      obtain ⟨e, u', w', frX, hR, hsteps, hkX, hfX, hgo⟩ := hcall { fr with defers := ds } cs hu room
      cases e with
      | outgrown => exact ⟨.outgrown, w', fr, hR, Outgrown.of_steps (.one go) hsteps, rfl, trivial⟩
      | returned v =>
        have back : (lone frX ({ { fr with defers := ds } with mode := u' } :: cs) w').fenced P F := fenced_going (n := n - 1) (hfX ▸ hFf) room hgo
        have go2 := step_going_returned (c := { { fr with defers := ds } with mode := u' }) (cs := cs) hkX hgo
        obtain ⟨e', w2, fr', h1, h2, h3, h4⟩ := leaves_stepsB ds (settle u') w' { { { fr with defers := ds } with mode := u' } with mode := settle u' } cs rfl rfl ht hf hk hb hroom hR
        exact ⟨e', w2, fr', h1, ComesIn.of_steps (.head out go (StepsIn.trans hsteps (.one back go2))) h2, h3, h4⟩
      | panicked chain =>
        have back : (lone frX ({ { fr with defers := ds } with mode := u' } :: cs) w').fenced P F := fenced_going (n := n - 1) (hfX ▸ hFf) room hgo
        have go2 := step_going_panicked (c := { { fr with defers := ds } with mode := u' }) (cs := cs) hgo
        obtain ⟨e', w2, fr', h1, h2, h3, h4⟩ := leaves_stepsB ds (raised u' chain) w' { { { fr with defers := ds } with mode := u' } with mode := raised u' chain } cs rfl rfl ht hf hk hb hroom hR
        exact ⟨e', w2, fr', h1, ComesIn.of_steps (.head out go (StepsIn.trans hsteps (.one back go2))) h2, h3, h4⟩
/-- What a function's body must come to. -/
def bodyPostB (F : Fence) (n : Nat) (P : Program) (fn : Func) (R : Ending → World → Prop) : Exit → Act → World → Prop
  | .normal, a, w => LeavesB F n P fn a.tmps R a.defers .returning w
  | .ret, a, w => LeavesB F n P fn a.tmps R a.defers .returning w
  | .panic chain, a, w => LeavesB F n P fn a.tmps R a.defers (.panicking chain) w
  | .outgrown, _, w => R .outgrown w
  | _, _, _ => False
/-- A function's contract from its body. -/
theorem callsIn_of_body {f : FuncId} {fn : Func} {c : Code} {args : Array Value} {w : World} {R : Ending → World → Prop}
    (hf : P.funcs[f]? = some fn) (hb : fn.body = some c) (hF : F.fn f)
    (h : c.wpIn F n P (bodyPostB F n P fn R) { tmps := args ++ Array.replicate (fn.ntmps - args.size) undef, defers := [] } w) (hro : F.round = none := by rfl) : CallsIn F n P f args w R := by
  refine ⟨hF, fun cs hr => ?_⟩
  let b : Frame := { (default : Frame) with fn := f, kind := .normal, roundOf := none }
  have henter : Frame.enter P f args .normal = b.atR { tmps := args ++ Array.replicate (fn.ntmps - args.size) undef, defers := [] } [.code c] := by
    simp [Frame.enter, Frame.atR, hf, hb, b]
  obtain ⟨e, a', w', hq, harr⟩ := h b [] cs hro.symm hF hr
  rw [← henter] at harr
  cases e with
  | normal =>
    obtain ⟨e', w'', fr', hR, hs, hfn, hl⟩ := leaves_stepsB a'.defers .returning w' { b.atR a' [] with mode := .returning } cs rfl rfl rfl hf rfl hF hr hq
    exact ⟨e', w'', fr', hR, ComesIn.of_steps (StepsIn.trans harr (.one (fenced_calm (fr := b.atR a' []) hF hr rfl) (stepR_end rfl))) hs, hfn, hl⟩
  | ret =>
    obtain ⟨todo, hs₀⟩ := harr.1 rfl
    obtain ⟨e', w'', fr', hR, hs, hfn, hl⟩ := leaves_stepsB a'.defers .returning w' { b.atR a' todo with mode := .returning } cs rfl rfl rfl hf rfl hF hr hq
    exact ⟨e', w'', fr', hR, ComesIn.of_steps hs₀ hs, hfn, hl⟩
  | panic chain =>
    obtain ⟨todo, hs₀⟩ := harr
    obtain ⟨e', w'', fr', hR, hs, hfn, hl⟩ := leaves_stepsB a'.defers (.panicking chain) w' { b.atR a' todo with mode := .panicking chain } cs rfl rfl rfl hf rfl hF hr hq
    exact ⟨e', w'', fr', hR, ComesIn.of_steps hs₀ hs, hfn, hl⟩
  | exit id => exact hq.elim
  | goto l => exact hq.elim
  | outgrown => exact ⟨.outgrown, w', b, hq, harr.resolve_left (by simp [b]), rfl, trivial⟩
end Go

/- Slices: cut, made, counted, appended to, copied. -/
namespace Go.Ax
section
variable {P : Program} {F : Nat → Option Obj} {m : Loc} {gl : Nat → AV} {eqT : Knob}

/-- Operands that may lack. -/
def OVRel (P : Program) (F : Nat → Option Obj) (m : Loc) : Option AV → Option Value → Prop
  | none, none => True
  | some x, some y => VRel P F m x y
  | _, _ => False
theorem OVRel.map {s : St} {ρ : Operand → Value} {C : Ctx} (hev : ∀ x, VRel P F m (s.ev C x) (ρ x)) (o : Option Operand) : OVRel P F m (o.map (s.ev C)) (o.map ρ) := by
  cases o with
  | none => trivial
  | some x => exact hev x
theorem bound_rel {v : AV} {cv : Value} {n y : Nat} {code : BoundsCode} {w : World} (h : natOf v = some n) (hv : VRel P F m v cv) (hle : n ≤ y) : (Instr.sliceBound cv y code).run P w = .ok n w := by
  obtain ⟨k, rfl⟩ := natOf_some h
  obtain rfl := hv.int_inv
  simp [Instr.sliceBound, asIntOf, hle]
theorem bounds_rel {b : Bool} {len cap l u : Nat} {lo hi : Option AV} {clo chi : Option Value} {w : World} (h1 : natOr 0 lo = some l) (h2 : natOr len hi = some u) (o1 : OVRel P F m lo clo) (o2 : OVRel P F m hi chi) (hlu : l ≤ u) (hu : u ≤ cap) :
    (Instr.sliceBounds b len cap clo chi none).run P w = .ok (l, u, cap) w := by
  unfold Instr.sliceBounds
  cases hi with
  | none =>
    cases chi with
    | some _ => exact o2.elim
    | none =>
      cases h2
      cases lo with
      | none =>
        cases clo with
        | some _ => exact o1.elim
        | none => cases h1; simp
      | some x =>
        cases clo with
        | none => exact o1.elim
        | some c => simp [bound_rel (P := P) h1 o1 hlu, Result.andThen]
  | some y =>
    cases chi with
    | none => exact o2.elim
    | some d =>
      cases lo with
      | none =>
        cases clo with
        | some _ => exact o1.elim
        | none => cases h1; simp [bound_rel (P := P) h2 o2 hu, Result.andThen]
      | some x =>
        cases clo with
        | none => exact o1.elim
        | some c => simp [bound_rel (P := P) h2 o2 hu, bound_rel (P := P) h1 o1 hlu, Result.andThen]
theorem bounds3_rel {b : Bool} {len cap l u k : Nat} {lo : Option AV} {y z : AV} {clo : Option Value} {d e : Value} {w : World} (h1 : natOr 0 lo = some l) (h2 : natOf y = some u) (h3 : natOf z = some k) (o1 : OVRel P F m lo clo) (o2 : VRel P F m y d) (o3 : VRel P F m z e)
    (hlu : l ≤ u) (hu : u ≤ k) (hk : k ≤ cap) : (Instr.sliceBounds b len cap clo (some d) (some e)).run P w = .ok (l, u, k) w := by
  unfold Instr.sliceBounds
  cases lo with
  | none =>
    cases clo with
    | some _ => exact o1.elim
    | none => cases h1; simp [bound_rel (P := P) h3 o3 hk, bound_rel (P := P) h2 o2 hu, Result.andThen]
  | some x =>
    cases clo with
    | none => exact o1.elim
    | some c => simp [bound_rel (P := P) h3 o3 hk, bound_rel (P := P) h2 o2 hu, bound_rel (P := P) h1 o1 hlu, Result.andThen]
theorem sliceAt_other {t : TypeId} {d : TypeDesc} (hu : ∀ w, (underlying t).run P w = .ok d w) (hd : ∀ n e, d ≠ .array n e) (x : Value) (lo hi mx : Option Value) (w : World) : (Instr.sliceAt t x lo hi mx).run P w = (Instr.slice t x lo hi mx).run P w := by
  unfold Instr.sliceAt
  simp only [Sem.run_bind, hu, Result.andThen_ok]
theorem sliceOf_rel {t : TypeId} {x v : AV} {lo hi mx : Option AV} {cx : Value} {clo chi cmx : Option Value} {h : Hp} {w : World} (hs : sliceOf (Ctx.of P gl eqT) t x lo hi mx h = some v) (hx : VRel P F m x cx)
    (o1 : OVRel P F m lo clo) (o2 : OVRel P F m hi chi) (o3 : OVRel P F m mx cmx) (hr : HRel P F m h w) : ∃ cv, (Instr.sliceAt t cx clo chi cmx).run P w = .ok cv w ∧ VRel P F m v cv := by
  unfold sliceOf at hs
  split at hs
  · cases hs
  rename_i ti ht
  have hu := fun w => run_underlying_ti (P := P) ht w
  split at hs
  · -- a text
    rename_i s hd
    split at hs
    case h_2 => cases hs
    rename_i l u hl hhu
    obtain ⟨hc, rfl⟩ := cond_some hs
    obtain ⟨c1, c2⟩ := and_bool hc
    have c1 := Nat.le_of_ble_eq_true c1
    have c2 := Nat.le_of_ble_eq_true c2
    obtain ⟨bs, rfl, rfl⟩ := hx.str_inv
    cases cmx with
    | some _ => exact o3.elim
    | none =>
      rw [hd] at hu
      have hlen : (bs.data.toList.map UInt8.toNat).length = bs.size := by simp
      rw [hlen] at hhu c2
      refine ⟨.string (bs.extract l u), ?_, ?_⟩
      · rw [sliceAt_other hu (fun _ _ => nofun)]
        simp [Instr.slice, hu, Result.andThen, bounds_rel hl hhu o1 o2 c1 c2]
      · have : ((bs.data.toList.map UInt8.toNat).drop l).take (Nat.sub u l) = (bs.extract l u).data.toList.map UInt8.toNat := by
          simp [ByteArray.data_extract, List.extract_eq_take_drop, ← List.map_drop, ← List.map_take]
        rw [this]; exact .str _
  · -- a slice
    rename_i e r o len cap es fx hd
    split at hs
    case h_2 => cases hs
    rename_i y l u k hy hl hhu hk
    cases hc : (Nat.ble l u && (Nat.ble u k && (Nat.ble k cap && Nat.beq y.size es))) with
    | false => rw [hc] at hs; cases hs
    | true =>
      rw [hc] at hs
      simp only [cond_true] at hs
      obtain ⟨c1, c2⟩ := and_bool hc
      obtain ⟨c2, c3⟩ := and_bool c2
      obtain ⟨c3, c4⟩ := and_bool c3
      have c1 := Nat.le_of_ble_eq_true c1
      have c2 := Nat.le_of_ble_eq_true c2
      have c3 := Nat.le_of_ble_eq_true c3
      have c4 := Nat.eq_of_beq_eq_true c4
      obtain ⟨b, z, ccap, hm, rfl, h1, h2, h3, h4⟩ := hx.sl_inv
      rw [hd] at hu
      rw [sliceAt_other hu (fun _ _ => nofun)]
      cases mx with
      | some zv =>
        cases cmx with
        | none => exact o3.elim
        | some cz =>
          simp only [Option.isSome_some, cond_true] at hs
          cases hi with
          | none => cases hs
          | some yv =>
            cases chi with
            | none => exact o2.elim
            | some cyv =>
              simp only [Option.isSome_some, cond_true] at hs
              cases hs
              have hb := bounds3_rel (P := P) (b := true) (len := len) (cap := ccap) (w := w) hl hhu hk o1 o2 o3 c1 c2 (by omega)
              by_cases hkl : k = l
              · subst hkl
                refine ⟨.slice (some ⟨b, o, none⟩) (u - k) (k - k), by simp [Instr.slice, hu, Result.andThen, hb, run_size_ti hy], ?_⟩
                have : (bif Nat.beq k k then o else Nat.add o (Nat.mul k es)) = o := by simp
                rw [this]
                refine .sl hm (Nat.sub_le_sub_right c2 k) (Nat.le_refl _) (fun _ => rfl) ?_
                simp only [Nat.sub_self, Nat.zero_mul]; omega
              · refine ⟨.slice (some ⟨b, o + l * es, none⟩) (u - l) (k - l), by simp [Instr.slice, hu, Result.andThen, hb, run_size_ti hy, hkl, add_none, c4], ?_⟩
                have : (bif Nat.beq k l then o else Nat.add o (Nat.mul l es)) = o + l * es := by
                  have : Nat.beq k l = false := by rw [beq_nat]; simpa using hkl
                  rw [this]; rfl
                rw [this]
                refine .sl hm (Nat.sub_le_sub_right c2 l) (Nat.le_refl _) (fun _ => rfl) ?_
                have : o + l * es + (k - l) * es = o + k * es := by rw [Nat.add_assoc, ← Nat.add_mul]; congr 2; omega
                have h5 : k * es ≤ ccap * es := Nat.mul_le_mul_right _ (by omega)
                omega
      | none =>
        cases cmx with
        | some _ => exact o3.elim
        | none =>
          simp only [Option.isSome_none, cond_false] at hs
          cases hk
          have hb := bounds_rel (P := P) (b := true) (len := len) (cap := ccap) (w := w) hl hhu o1 o2 c1 (by omega)
          by_cases hl0 : l = 0
          · subst hl0
            simp only [Nat.beq_refl, cond_true] at hs
            cases hs
            refine ⟨.slice (some ⟨b, o, none⟩) u ccap, ?_, .sl hm c2 h2 h3 h4⟩
            by_cases h0 : ccap = 0
            · subst h0; simp [Instr.slice, hu, Result.andThen, hb, run_size_ti hy]
            · simp [Instr.slice, hu, Result.andThen, hb, run_size_ti hy, h0, add_none]
          · have : Nat.beq l 0 = false := by rw [beq_nat]; simpa using hl0
            rw [this] at hs
            simp only [cond_false] at hs
            cases hlt : Nat.blt l cap with
            | true =>
              rw [hlt] at hs
              have hlt : l < cap := Nat.le_of_ble_eq_true hlt
              cases hs
              have hne : ¬ ccap = l := by omega
              refine ⟨.slice (some ⟨b, o + l * es, none⟩) (u - l) (ccap - l), by simp [Instr.slice, hu, Result.andThen, hb, run_size_ti hy, hne, add_none, c4], ?_⟩
              refine .sl hm (Nat.sub_le_sub_right c2 l) (Nat.sub_le_sub_right h2 l) (fun e => by rw [h3 e]; rfl) ?_
              have : Nat.add o (Nat.mul l es) + (ccap - l) * es = o + ccap * es := by
                show o + l * es + (ccap - l) * es = _
                rw [Nat.add_assoc, ← Nat.add_mul]; congr 2; omega
              omega
            | false =>
              rw [hlt] at hs
              cases hs
              have hge : cap ≤ l := by
                rcases Nat.lt_or_ge l cap with h' | h'
                · have : Nat.blt l cap = true := Nat.ble_eq_true_of_le h'
                  rw [this] at hlt; cases hlt
                · exact h'
              have hul : u - l = 0 := by omega
              refine ⟨_, by simp [Instr.slice, hu, Result.andThen, hb, run_size_ti hy]; rfl, ?_⟩
              rw [hul]; exact .isl0 _ _
  · -- a slice that nobody writes
    rename_i e xs hd
    split at hs
    case h_2 => cases hs
    rename_i y l u hy hl hhu
    obtain ⟨hc, rfl⟩ := cond_some hs
    obtain ⟨c1, c2⟩ := and_bool hc
    obtain ⟨c2, c3⟩ := and_bool c2
    have c1 := Nat.le_of_ble_eq_true c1
    have c2 := Nat.le_of_ble_eq_true c2
    obtain ⟨a, cap, rfl, hcap, hne⟩ := hx.isl_inv
    cases cmx with
    | some _ => exact o3.elim
    | none =>
      rw [hd] at hu
      rw [sliceAt_other hu (fun _ _ => nofun)]
      have hb := bounds_rel (P := P) (b := true) (len := xs.length) (cap := cap) (w := w) hl hhu o1 o2 c1 (by omega)
      have hlen : ((xs.drop l).take (Nat.sub u l)).length = u - l := by simp; omega
      by_cases h0 : u - l = 0
      · have : (xs.drop l).take (Nat.sub u l) = [] := List.eq_nil_of_length_eq_zero (by rw [hlen]; exact h0)
        rw [this]
        refine ⟨_, by simp [Instr.slice, hu, Result.andThen, hb, run_size_ti hy]; rfl, ?_⟩
        rw [h0]; exact .isl0 _ _
      · obtain ⟨b, off, arr, e', fz, es, g, rfl, hF, hes, hfc, hcc⟩ := hne (fun e => by rw [e] at c2; simp at c2; omega)
        have hxl : l < xs.length := by omega
        have hys : y.size = es := by
          have h1 := List.all_eq_true.1 c3 _ (List.getElem_mem hxl)
          rw [← hes _ (List.getElem_mem hxl)]
          exact (Nat.eq_of_beq_eq_true h1).symm
        have hne' : ¬ cap = l := by omega
        have hvr : VRel P F m (.isl ((xs.drop l).take (Nat.sub u l))) (.slice (some ⟨b, off + l * es, none⟩) ((xs.drop l).take (Nat.sub u l)).length (cap - l)) := by
          refine .isl es (fun i j => g (l + i) j) hF (by rw [hlen]; omega) (fun c hc => hes c (List.mem_of_mem_drop (List.mem_of_mem_take hc))) ?_ ?_
          · intro i j hi hj
            rw [hlen] at hi
            have := hfc (l + i) j (by omega) hj
            rw [← this]
            congr 1
            rw [Nat.add_mul]; omega
          · intro i j c x hi hj
            rw [List.getElem?_take] at hi
            split at hi
            · rw [List.getElem?_drop] at hi
              exact hcc (l + i) j c x hi hj
            · cases hi
        rw [hlen] at hvr
        exact ⟨_, by simp [Instr.slice, hu, Result.andThen, hb, run_size_ti hy, hne', add_none, hys], hvr⟩
  · -- nil
    rename_i e hd
    split at hs
    case h_2 => cases hs
    rename_i hl hhu hk
    obtain rfl := hx.nilsl_inv
    rw [hd] at hu
    rw [sliceAt_other hu (fun _ _ => nofun)]
    cases he : (Ctx.of P gl eqT).ti e with
    | none => rw [he] at hs; cases hs
    | some y =>
    rw [he] at hs
    cases mx with
    | some zv =>
      cases cmx with
      | none => exact o3.elim
      | some cz =>
        cases hi with
        | none => cases hs
        | some yv =>
          cases chi with
          | none => exact o2.elim
          | some cyv =>
            cases hs
            have hb := bounds3_rel (P := P) (b := true) (len := 0) (cap := 0) (w := w) hl hhu hk o1 o2 o3 (Nat.le_refl _) (Nat.le_refl _) (Nat.le_refl _)
            exact ⟨_, by simp [Instr.slice, hu, Result.andThen, hb, run_size_ti he], .nilsl⟩
    | none =>
      cases cmx with
      | some _ => exact o3.elim
      | none =>
        cases hs
        have hb := bounds_rel (P := P) (b := true) (len := 0) (cap := 0) (w := w) hl hhu o1 o2 (Nat.le_refl _) (Nat.le_refl _)
        exact ⟨_, by simp [Instr.slice, hu, Result.andThen, hb, run_size_ti he], .nilsl⟩
  · -- an array
    rename_i k e r o hd
    split at hs
    case h_2 => cases hs
    rename_i y l u e' cs hy hl hhu hg
    obtain ⟨hc, rfl⟩ := cond_some hs
    obtain ⟨c1, c2⟩ := and_bool hc
    obtain ⟨c2, c3⟩ := and_bool c2
    have c1 := Nat.le_of_ble_eq_true c1
    have c2 := Nat.le_of_ble_eq_true c2
    have c3 : o + k * y.size ≤ cs.length := Nat.le_of_ble_eq_true c3
    obtain ⟨b, z, hm, rfl⟩ := hx.ptr_inv
    obtain ⟨arr, g1, g2, g3, g4⟩ := hr.obj r _ b z hg hm
    cases cmx with
    | some _ => exact o3.elim
    | none =>
      rw [hd] at hu
      have hb := bounds_rel (P := P) (b := false) (len := k) (cap := k) (w := w) hl hhu o1 o2 c1 c2
      by_cases hkl : k = l
      · subst hkl
        refine ⟨.slice (some ⟨b, o, none⟩) (u - k) (k - k), by simp [Instr.sliceAt, Instr.sureAddr, hu, Result.andThen, hb, run_size_ti hy], ?_⟩
        have : (bif Nat.beq k k then o else Nat.add o (Nat.mul k y.size)) = o := by simp
        rw [this]
        refine .sl hm (Nat.sub_le_sub_right c2 k) (Nat.le_refl _) (fun _ => rfl) ?_
        simp only [Nat.sub_self, Nat.zero_mul]; omega
      · refine ⟨.slice (some ⟨b, o + l * y.size, none⟩) (u - l) (k - l), by simp [Instr.sliceAt, Instr.sureAddr, hu, Result.andThen, hb, run_size_ti hy, hkl, add_none], ?_⟩
        have : (bif Nat.beq k l then o else Nat.add o (Nat.mul l y.size)) = o + l * y.size := by
          have : Nat.beq k l = false := by rw [beq_nat]; simpa using hkl
          rw [this]; rfl
        rw [this]
        refine .sl hm (Nat.sub_le_sub_right c2 l) (Nat.le_refl _) (fun _ => rfl) ?_
        have : o + l * y.size + (k - l) * y.size = o + k * y.size := by rw [Nat.add_assoc, ← Nat.add_mul]; congr 2; omega
        omega
  · cases hs
end
end Go.Ax

/- Slices made, appended to, copied; what is counted. -/
namespace Go.Ax
section
variable {P : Program} {F : Nat → Option Obj} {m : Loc} {gl : Nat → AV} {eqT : Knob}

theorem run_askRoom (n : Nat) (w : World) : (askRoom n).run P w = .ok () w := by
  unfold askRoom; split <;> simp [mark, Sem.run]
theorem makeSlice_rel {t : TypeId} {l c v : AV} {cl cc : Value} {h h' : Hp} {w : World} (ha : makeSlice (Ctx.of P gl eqT) t l c h = some (v, h')) (hl : VRel P F m l cl) (hc : VRel P F m c cc) (hr : HRel P F m h w) (hn : ∀ r, h.nx ≤ r → r < h'.nx → m r = none) :
    ∃ cv w' m', (Instr.makeSlice t cl cc).run P w = .ok cv w' ∧ Step P F m h h' w w' m' ∧ VRel P F m' v cv := by
  unfold makeSlice at ha
  split at ha
  case h_2 => cases ha
  rename_i e size isAgg zero zeroOk bytes comparable zv ht
  split at ha
  case h_2 => cases ha
  rename_i x nl nc hx hnl hnc
  obtain ⟨hb, he⟩ := cond_some ha
  cases he
  obtain ⟨hz, hb⟩ := and_bool hb
  obtain ⟨b1, hb⟩ := and_bool hb
  obtain ⟨b2, b3⟩ := and_bool hb
  have b1 := Nat.le_of_ble_eq_true b1
  have b2 := Nat.le_of_ble_eq_true b2
  have b3 := Nat.le_of_ble_eq_true b3
  obtain ⟨k1, rfl⟩ := natOf_some hnl
  obtain ⟨k2, rfl⟩ := natOf_some hnc
  obtain rfl := hl.int_inv
  obtain rfl := hc.int_inv
  obtain ⟨i, z, hi, hiz, hsz, hzl, hzs⟩ := ti_zero (P := P) (F := F) (m := m) hx hz
  have hby : i.bytes = x.bytes := by obtain ⟨j, hj, _, e2, _⟩ := ti_info hx; rw [hi] at hj; cases hj; exact e2.symm
  have hu := ti_underlying ht
  dsimp only at hu
  have hbytes : (i.bytes : Int) * (Int.ofNat nc) ≤ 281474976710656 := by
    rw [hby]
    have : x.bytes * nc ≤ 1000000 * 1000000 := Nat.mul_le_mul b3 b2
    have h2 : ((x.bytes * nc : Nat) : Int) = (x.bytes : Int) * (Int.ofNat nc) := by simp
    omega
  have hlc : (Int.ofNat nl : Int) ≤ Int.ofNat nc := by show (nl : Int) ≤ (nc : Int); omega
  have h63 : (Int.ofNat nc : Int) ≤ 9223372036854775807 := by show (nc : Int) ≤ _; omega
  have hn' := hn h.nx (Nat.le_refl _) (Nat.lt_succ_self _)
  have hrun := run_make (P := P) w t e i z hu hi hiz k1 k2 (.ofNat nl) (.ofNat nc) (Int.natCast_nonneg nl) hlc hbytes h63
  have hcells : LRel P F m (zeroCells nc x.zero) (madeCells z.cells ((Int.ofNat nc).toNat * i.size)).toList := by
    have e1 : (Int.ofNat nc).toNat * i.size = nc * z.cells.size := by rw [hzs, hsz]; rfl
    exact zeroCells_rel hzl nc _ e1
  refine ⟨_, _, _, hrun, newRow_step hr hn' e hcells, .sl (z := _) (Loc.put_same _ _ _ _) b1 (Nat.le_refl _) (fun _ => rfl) ?_⟩
  rw [size_madeCells, hsz]
  show 0 + nc * x.size ≤ nc * x.size
  omega

theorem lenA_rel {x : AV} {cx : Value} {k : Nat} {w : World} (h : lenA x = some k) (hx : VRel P F m x cx) : (Builtin.lenOf cx).run P w = .ok k w := by
  unfold lenA at h
  split at h
  · cases h; obtain rfl := hx.nilsl_inv; simp [Builtin.lenOf]
  · cases h; obtain ⟨b, z, ccap, _, rfl, _⟩ := hx.sl_inv; simp [Builtin.lenOf]
  · cases h; obtain ⟨a, cap, rfl, _⟩ := hx.isl_inv; simp [Builtin.lenOf]
  · cases h; obtain ⟨s, rfl, rfl⟩ := hx.str_inv; simp [Builtin.lenOf]
  · cases h
theorem lenOfA_rel {t : TypeId} {ts : Array TypeId} {ty : TypeId} {args : Array Value} {x v : AV} {cx : Value} {h : Hp} {w : World} (ht : ts[0]? = some t) (ha : args[0]? = some cx) (hl : lenOfA (Ctx.of P gl eqT) t x h = some v) (hx : VRel P F m x cx) (hr : HRel P F m h w) :
    ∃ cv, (Builtin.len_ ts ty args).run P w = .ok cv w ∧ VRel P F m v cv := by
  unfold lenOfA at hl
  split at hl
  · cases hl
  rename_i ti hti
  have hu := run_underlying_ti hti w
  split at hl
  · rename_i s hd; cases hl; rw [hd] at hu
    obtain ⟨s, rfl, rfl⟩ := hx.str_inv
    refine ⟨.int .i64 (.ofNat s.size), by simp [Builtin.len_, ht, ha, hu, Result.andThen, goInt], ?_⟩
    have : ((s.data.toList.map UInt8.toNat).length) = s.size := by simp
    rw [this]; exact .int _ _
  · rename_i n e hd; cases hl; rw [hd] at hu
    exact ⟨.int .i64 (.ofNat n), by simp [Builtin.len_, ht, ha, hu, Result.andThen, goInt], .int _ _⟩
  · cases hl
  · rename_i e x hd hns; rw [hd] at hu
    split at hl
    case h_2 => cases hl
    rename_i n hn
    cases hl
    refine ⟨.int .i64 (.ofNat n), ?_, .int _ _⟩
    unfold lenA at hn
    split at hn
    · cases hn; obtain rfl := hx.nilsl_inv; simp [Builtin.len_, ht, ha, hu, Result.andThen, goInt]
    · cases hn; obtain ⟨b, z, ccap, _, rfl, _⟩ := hx.sl_inv; simp [Builtin.len_, ht, ha, hu, Result.andThen, goInt]
    · cases hn; obtain ⟨a, cap, rfl, _⟩ := hx.isl_inv; simp [Builtin.len_, ht, ha, hu, Result.andThen, goInt]
    · exact absurd rfl (hns _)
    · cases hn
  · rename_i hd; cases hl; rw [hd] at hu
    obtain rfl := hx.nilmap_inv
    exact ⟨.int .i64 0, by simp [Builtin.len_, ht, ha, hu, Result.andThen, goInt], .int _ _⟩
  · rename_i r hd; rw [hd] at hu
    split at hl
    case h_2 => cases hl
    rename_i es clock hg
    cases hl
    obtain ⟨b, z, hm, rfl⟩ := hx.map_inv
    obtain ⟨ces, h1, h2, _⟩ := hr.obj r _ b z hg hm
    exact ⟨.int .i64 (.ofNat ces.size), by simp [Builtin.len_, ht, ha, hu, Result.andThen, goInt, getObj, Sem.run, h1], by rw [h2]; exact .int _ _⟩
  · cases hl

/-! ### What is appended -/
theorem firstCells_rel {h : Hp} {es k : Nat} {x : AV} {cx : Value} {new : List AV} {w w0 : World} (hs : srcCells h es k x = some new) (hx : VRel P F m x cx) (hr : HRel P F m h w) (hw : w0.heap = w.heap) :
    ∃ arr, (Builtin.firstCells es k cx).run P w0 = .ok arr w0 ∧ LRel P F m new arr.toList := by
  have hcell : ∀ b j arr (e : TypeId) (fz : Nat × Nat), w.heap[b]? = some (.cells arr e fz) → w0.cell? ⟨b, j, none⟩ = arr[j]? := fun b j arr e fz hb => cell_cells (by rw [hw]; exact hb)
  unfold srcCells at hs
  split at hs
  · obtain ⟨hk, rfl⟩ := cond_some hs
    obtain rfl := hx.nilsl_inv
    exact ⟨#[], by simp [Builtin.firstCells], .nil⟩
  · rename_i r o len cap fs fx
    obtain ⟨b, z, ccap, hm, rfl, h1, h2, h3, h4⟩ := hx.sl_inv
    cases hc : (Nat.ble k len && Nat.beq fs es) with
    | false => rw [hc] at hs; cases hs
    | true =>
      rw [hc] at hs
      simp only [cond_true] at hs
      split at hs
      case h_2 => cases hs
      rename_i e cs hg
      obtain ⟨hle, rfl⟩ := sub_some hs
      obtain ⟨arr, g1, g2, g3, g4⟩ := hr.obj r _ b z hg hm
      have hle : o + k * es ≤ cs.length := hle
      let vs := (arr.toList.drop o).take (k * es)
      have hvl : vs.length = k * es := by simp [vs]; omega
      have hrun := run_loadCells_list (P := P) w0 ⟨b, o, none⟩ vs (fun j v hj => by
        rw [add_none, hcell b _ arr e _ g1]
        rw [List.getElem?_take] at hj
        split at hj
        · rw [List.getElem?_drop] at hj; simpa using hj
        · cases hj)
      rw [hvl] at hrun
      refine ⟨vs.toArray, by simpa [Builtin.firstCells] using hrun, ?_⟩
      have : LRel P F m (cs.take (o + k * es)) (arr.toList.take (o + k * es)) := by
        refine ⟨by simp; omega, fun i x y hx hy => ?_⟩
        rw [List.getElem?_take] at hx hy
        split at hx
        · rename_i hi; rw [if_pos hi] at hy; exact g4 i x y hx (by simpa using hy)
        · cases hx
      have h2 := this.drop o
      rw [List.drop_take, List.drop_take, Nat.add_sub_cancel_left] at h2
      exact h2
  · rename_i xs
    obtain ⟨a, cap, rfl, hcap, hne⟩ := hx.isl_inv
    obtain ⟨hc, rfl⟩ := cond_some hs
    obtain ⟨c1, c2⟩ := and_bool hc
    have c1 := Nat.le_of_ble_eq_true c1
    have hall : ∀ c ∈ xs, c.length = es := fun c hc => Nat.eq_of_beq_eq_true (List.all_eq_true.1 c2 c hc)
    by_cases h0 : k * es = 0
    · have hnil : (xs.take k).flatten = [] := by
        apply List.eq_nil_of_length_eq_zero
        rw [List.length_flatten]
        have : (xs.take k).map List.length = List.replicate k es := by
          apply List.ext_getElem
          · simp; omega
          · intro i h1 h2
            simp only [List.getElem_map, List.getElem_take, List.getElem_replicate]
            exact hall _ (List.getElem_mem _)
        rw [this]; simpa using h0
      rw [hnil]
      cases a with
      | none => exact ⟨#[], by simp [Builtin.firstCells], .nil⟩
      | some a => exact ⟨#[], by simp only [Builtin.firstCells, h0]; rfl, .nil⟩
    · have hxs : xs ≠ [] := fun e => by subst e; simp at c1; subst c1; simp at h0
      obtain ⟨b, off, arr, e', fz, es', g, rfl, hF, hes, hfc, hcc⟩ := hne hxs
      have hes' : es' = es := by
        obtain ⟨c, l, rfl⟩ := List.exists_cons_of_ne_nil hxs
        rw [← hes c List.mem_cons_self, hall c List.mem_cons_self]
      subst hes'
      have hb := hr.frz b _ hF
      -- by the number of what is taken
      have key : ∀ n, n ≤ xs.length → ∃ vs : List Value, vs.length = n * es' ∧ (∀ j v, vs[j]? = some v → w0.cell? ⟨b, off + j, none⟩ = some v) ∧ LRel P F m (xs.take n).flatten vs := by
        intro n
        induction n with
        | zero => intro _; exact ⟨[], by simp, fun j v h => by simp at h, by simp; exact .nil⟩
        | succ n ih =>
          intro hn
          obtain ⟨vs, v1, v2, v3⟩ := ih (by omega)
          have hlt : n < xs.length := by omega
          let row := (List.range es').map fun j => g n j
          refine ⟨vs ++ row, by simp [row, v1, Nat.succ_mul], ?_, ?_⟩
          · intro j v hj
            by_cases hjl : j < vs.length
            · rw [List.getElem?_append_left hjl] at hj; exact v2 j v hj
            · rw [List.getElem?_append_right (by omega)] at hj
              have hj' : j - vs.length < es' := by have := (List.getElem?_eq_some_iff.1 hj).1; simpa [row] using this
              have hv : v = g n (j - vs.length) := by simp [row, hj'] at hj; exact hj.symm
              rw [hcell b _ arr e' fz hb, hv, ← hfc n (j - vs.length) hlt hj']
              congr 1; omega
          · have e1 : (xs.take (n + 1)).flatten = (xs.take n).flatten ++ xs[n] := by
              rw [List.take_succ_eq_append_getElem hlt, List.flatten_append]; simp
            rw [e1]
            refine v3.append ⟨by simp [row]; exact hes _ (List.getElem_mem hlt), fun i x y hx hy => ?_⟩
            have hi : i < es' := by have := (List.getElem?_eq_some_iff.1 hy).1; simpa [row] using this
            have : y = g n i := by simp [row, hi] at hy; exact hy.symm
            rw [this]
            exact hcc n i xs[n] x (List.getElem?_eq_getElem hlt) hx
      obtain ⟨vs, v1, v2, v3⟩ := key k c1
      have hrun := run_loadCells_list (P := P) w0 ⟨b, off, none⟩ vs (fun j v hj => by rw [add_none]; exact v2 j v hj)
      rw [v1] at hrun
      exact ⟨vs.toArray, by simpa [Builtin.firstCells] using hrun, v3⟩
  · rename_i s
    obtain ⟨hc, rfl⟩ := cond_some hs
    obtain ⟨bs, rfl, rfl⟩ := hx.str_inv
    refine ⟨(bs.extract 0 k).data.map fun b => .int .u8 b.toNat, by simp [Builtin.firstCells], ?_⟩
    have e1 : ((bs.extract 0 k).data.map fun b => Value.int .u8 b.toNat).toList = (bs.data.toList.take k).map fun b => Value.int .u8 b.toNat := by
      simp [ByteArray.data_extract, List.extract_eq_take_drop]
    rw [e1, ← List.map_take, List.map_map]
    refine ⟨by simp, fun i x y hx hy => ?_⟩
    rw [List.getElem?_map] at hx hy
    cases hb : (bs.data.toList.take k)[i]? with
    | none => rw [hb] at hx; cases hx
    | some u => rw [hb] at hx hy; cases hx; cases hy; exact .int _ _
  · cases hs
end
end Go.Ax

/- append, copy; maps. -/
namespace Go.Ax
section
variable {P : Program} {F : Nat → Option Obj} {m : Loc} {gl : Nat → AV} {eqT : Knob}

theorem isSrc_cases {d : TypeDesc} (h : isSrc d = true) : (∃ e, d = .slice e) ∨ d = .string := by cases d <;> first | (exact .inl ⟨_, rfl⟩) | (exact .inr rfl) | cases h
theorem run_append_in {t xt ty e : TypeId} {dx : TypeDesc} {i : TypeInfo} {ts : Array TypeId} {args : Array Value} {w w' : World} (t0 : ts[0]? = some t) (t1 : ts[1]? = some xt) (ht : P.underlying t = some (.slice e)) (hxt : P.underlying xt = some dx) (hdx : isSrc dx = true) (hi : P.info? e = some i)
    {base : Option Addr} {sLen sCap n : Nat} {x : Value} {arr : Array Value} (a0 : args[0]? = some (.slice base sLen sCap)) (a1 : args[1]? = some x) (hL : (Builtin.lenOf x).run P w = .ok n w) (hF : (Builtin.firstCells i.size n x).run P w = .ok arr w)
    (hroom : sLen + n ≤ sCap) (hst : (match base with | some a => storeCells (a.add (sLen * i.size)) arr.toList | none => pure () : Sem Unit).run P w = .ok () w') :
    (Builtin.append_ ts ty args).run P w = .ok (.slice base (sLen + n) sCap) w' := by
  rcases isSrc_cases hdx with ⟨e2, rfl⟩ | rfl
  all_goals cases base with
  | none =>
    simp at hst
    subst hst
    simp [Builtin.append_, t0, t1, a0, a1, run_underlying ht, run_underlying hxt, sizeOf, typeInfo, hi, hL, hF, hroom]
  | some a =>
    simp only at hst
    simp [Builtin.append_, t0, t1, a0, a1, run_underlying ht, run_underlying hxt, sizeOf, typeInfo, hi, hL, hF, hroom, hst]
theorem run_append_out {t xt ty e : TypeId} {dx : TypeDesc} {i : TypeInfo} {z : Value} {ts : Array TypeId} {args : Array Value} {w : World} (t0 : ts[0]? = some t) (t1 : ts[1]? = some xt) (ht : P.underlying t = some (.slice e)) (hxt : P.underlying xt = some dx) (hdx : isSrc dx = true) (hi : P.info? e = some i) (hz : i.zero = some z)
    {base : Option Addr} {sLen sCap n : Nat} {x : Value} {olds arr : Array Value} (a0 : args[0]? = some (.slice base sLen sCap)) (a1 : args[1]? = some x) (hL : (Builtin.lenOf x).run P w = .ok n w) (hF : (Builtin.firstCells i.size n x).run P w.drew = .ok arr w.drew)
    (hO : (Builtin.firstCells i.size sLen (.slice base sLen sCap)).run P w.drew = .ok olds w.drew) (hroom : sCap < sLen + n) (h63 : sLen + n ≤ 1000000) (hb : i.bytes ≤ 1000000) :
    ∃ cap rest, sLen + n ≤ cap ∧ rest.size = (cap - (sLen + n)) * z.cells.size ∧ (Builtin.append_ ts ty args).run P w = .ok (.slice (some ⟨w.heap.size, 0, none⟩) (sLen + n) cap) (w.drew.alloc (.cells (olds ++ arr ++ rest) e)) := by
  have hn : ¬ (sLen + n ≤ sCap) := by omega
  have h63' : ¬ (9223372036854775807 < ((sLen : Int) + (n : Int))) := by omega
  have h48' : ¬ (281474976710656 < Builtin.nextslicecap (sLen + n) sCap * i.bytes) := by
    have h1 := nextslicecap_le hroom
    have h2 : Builtin.nextslicecap (sLen + n) sCap * i.bytes ≤ 2000000 * 1000000 := Nat.mul_le_mul (by omega) hb
    omega
  refine ⟨grownCap w (sLen + n) sCap e, Builtin.zeroCells z.cells (grownCap w (sLen + n) sCap e - (sLen + n)), grownCap_ge w _ _ _, size_zeroCells _ _, ?_⟩
  rcases isSrc_cases hdx with ⟨e2, rfl⟩ | rfl
  all_goals simp [Builtin.append_, t0, t1, a0, a1, run_underlying ht, run_underlying hxt, sizeOf, typeInfo, zeroValue, hi, hz, hL, hn, h63', h48', Question.forced, hF, hO, newRow, grownCap]

/-- A slice goes over into a longer one, in place or in a new block. -/
theorem Step.moveIn {h : Hp} {w w' : World} (hr : HRel P F m h w) (hn : m h.nx = none) {r : Nat} {q : AObj} {b z : Nat} (hg : h.get r = some q) (hq : q.live = true) (hm : m r = some (b, z)) {o : AObj} {ob : Obj}
    (hat : w'.heap[b]? = some ob) (hne : ∀ c, c ≠ b → w'.heap[c]? = w.heap[c]?) (hsz : w'.heap.size = w.heap.size) (hs : SameOut w w') (ho : ORel P F (m.put h.nx b z) z o (some ob)) :
    Step P F m h ((h.put r .dead).new o) w w' (m.put h.nx b z) := by
  have hle : Loc.le m (m.put h.nx b z) := Loc.le_put hn
  have hbl : b < w.heap.size := hr.lt hg hq hm
  have get' : ∀ s, ((h.put r .dead).new o).get s = if h.nx = s then some o else if r = s then some .dead else h.get s := fun s => by
    rw [Hp.get_new, Hp.get_put]; rfl
  have hF := hr.out r q b z hg hq hm
  refine ⟨hle, ?_, ⟨?_, ?_, ?_, ?_, fun s hs' => by
    have hs' : h.nx + 1 ≤ s := hs'
    have hw := hr.wf s (by omega)
    rw [get', if_neg (by omega), if_neg (fun e => by rw [← e, hg] at hw; cases hw)]; exact hw⟩, hs, (by rw [hsz]; exact Nat.le_refl _), ?_, Nat.le_succ _, ?_, ?_, fun b o h => .inl h⟩
  · intro s c hc hn'
    by_cases h' : s = h.nx
    · subst h'; exact ⟨Nat.le_refl _, Nat.lt_succ_self _⟩
    · rw [Loc.put_ne m _ _ h', hn'] at hc; cases hc
  · intro s p c y hg' hm'
    rw [get'] at hg'
    by_cases h' : h.nx = s
    · rw [if_pos h'] at hg'; cases hg'
      subst h'
      rw [Loc.put_same] at hm'; cases hm'
      rw [hat]; exact ho
    · rw [if_neg h'] at hg'
      rw [Loc.put_ne m _ _ (fun e => h' e.symm)] at hm'
      by_cases h2 : r = s
      · rw [if_pos h2] at hg'; cases hg'; trivial
      · rw [if_neg h2] at hg'
        have h1 := hr.obj s p c y hg' hm'
        by_cases hl : p.live = true
        · have hc : c ≠ b := fun e => h2 (hr.inj r s q p b z y hg hq hg' hl hm (e ▸ hm'))
          rw [hne c hc]; exact h1.mono hle
        · cases p <;> first | trivial | exact absurd rfl hl
  · intro s t p p' c y y' hg1 hl1 hg2 hl2 hm1 hm2
    rw [get'] at hg1 hg2
    have e1 : ∃ s', (s' = s ∧ h.nx ≠ s ∧ r ≠ s ∧ h.get s = some p ∧ m s = some (c, y)) ∨ (s = h.nx ∧ c = b) := by
      by_cases h' : h.nx = s
      · subst h'; rw [Loc.put_same] at hm1; cases hm1; exact ⟨0, .inr ⟨rfl, rfl⟩⟩
      · rw [if_neg h'] at hg1
        rw [Loc.put_ne m _ _ (fun e => h' e.symm)] at hm1
        by_cases h2 : r = s
        · rw [if_pos h2] at hg1; cases hg1; cases hl1
        · rw [if_neg h2] at hg1; exact ⟨s, .inl ⟨rfl, h', h2, hg1, hm1⟩⟩
    have e2 : ∃ s', (s' = t ∧ h.nx ≠ t ∧ r ≠ t ∧ h.get t = some p' ∧ m t = some (c, y')) ∨ (t = h.nx ∧ c = b) := by
      by_cases h' : h.nx = t
      · subst h'; rw [Loc.put_same] at hm2; cases hm2; exact ⟨0, .inr ⟨rfl, rfl⟩⟩
      · rw [if_neg h'] at hg2
        rw [Loc.put_ne m _ _ (fun e => h' e.symm)] at hm2
        by_cases h2 : r = t
        · rw [if_pos h2] at hg2; cases hg2; cases hl2
        · rw [if_neg h2] at hg2; exact ⟨t, .inl ⟨rfl, h', h2, hg2, hm2⟩⟩
    obtain ⟨_, ⟨_, n1, r1, g1, l1⟩ | ⟨rfl, rfl⟩⟩ := e1
    · obtain ⟨_, ⟨_, n2, r2, g2, l2⟩ | ⟨rfl, rfl⟩⟩ := e2
      · exact hr.inj s t p p' c y y' g1 hl1 g2 hl2 l1 l2
      · exact absurd (hr.inj r s q p c z y hg hq g1 hl1 hm l1) r1
    · obtain ⟨_, ⟨_, n2, r2, g2, l2⟩ | ⟨rfl, _⟩⟩ := e2
      · exact absurd (hr.inj r t q p' c z y' hg hq g2 hl2 hm l2) r2
      · rfl
  · intro s p c y hg' hl hm'
    rw [get'] at hg'
    by_cases h' : h.nx = s
    · subst h'; rw [Loc.put_same] at hm'; cases hm'; exact hF
    · rw [if_neg h'] at hg'
      rw [Loc.put_ne m _ _ (fun e => h' e.symm)] at hm'
      by_cases h2 : r = s
      · rw [if_pos h2] at hg'; cases hg'; cases hl
      · rw [if_neg h2] at hg'; exact hr.out s p c y hg' hl hm'
  · intro c x hx
    have hc : c ≠ b := fun e => by
      rw [e] at hx
      rcases hx with hx | hx
      · rw [hF.1] at hx; cases hx
      · have hx : m.fz b = some x := hx
        rw [hF.2] at hx; cases hx
    rw [hne c hc]; exact hr.frz c x hx
  · intro c hc hall
    exact hne c (fun e => hall r q z hg hq (e ▸ hm))
  · intro s o' c hg' hl hms
    rw [get'] at hg'
    by_cases h' : h.nx = s
    · subst h'; rw [hn] at hms; cases hms
    · rw [if_neg h'] at hg'
      by_cases h2 : r = s
      · rw [if_pos h2] at hg'; cases hg'; cases hl
      · rw [if_neg h2] at hg'; exact ⟨o', hg', hl⟩
  · intro s c y hc hn' _
    by_cases h' : s = h.nx
    · subst h'; rw [Loc.put_same] at hc; cases hc; exact .inr ⟨r, q, z, hg, hq, hm⟩
    · rw [Loc.put_ne m _ _ h', hn'] at hc; cases hc
end
end Go.Ax

/- append and copy, as the abstract machine does them. -/
namespace Go.Ax
section
variable {P : Program} {F : Nat → Option Obj} {m : Loc} {gl : Nat → AV} {eqT : Knob}

theorem newRow_stepD {h : Hp} {w w1 : World} (hr : HRel P F m h w) (hn : m h.nx = none) (e : TypeId) {cs : List AV} {cells : Array Value} (hle : cs.length ≤ cells.size) (hc : ∀ (i : Nat) (x : AV) (y : Value), cs[i]? = some x → cells[i]? = some y → VRel P F m x y)
    (hh : w1.heap = w.heap.push (.cells cells e)) (hs : SameOut w w1) : Step P F m h (h.new (.cells e cs)) w w1 (m.put h.nx w.heap.size cells.size) :=
  Step.alloc hr hn hh hs ⟨cells, rfl, rfl, hle, fun i x y hx hy => (hc i x y hx hy).mono (Loc.le_put hn)⟩
theorem LRel.append_rest {l : List AV} {a rest : Array Value} (h : LRel P F m l a.toList) : l.length ≤ (a ++ rest).size ∧ ∀ (i : Nat) (x : AV) (y : Value), l[i]? = some x → (a ++ rest)[i]? = some y → VRel P F m x y := by
  have hl := h.len
  simp at hl
  refine ⟨by simp; omega, fun i x y hx hy => ?_⟩
  have hi : i < l.length := (List.getElem?_eq_some_iff.1 hx).1
  rw [Array.getElem?_append_left (by omega)] at hy
  exact h.at' i x y hx (by simpa using hy)

theorem appendA_rel {st xt ty : TypeId} {s x v : AV} {cs cx : Value} {ts : Array TypeId} {args : Array Value} {h h' : Hp} {w : World} (t0 : ts[0]? = some st) (t1 : ts[1]? = some xt) (a0 : args[0]? = some cs) (a1 : args[1]? = some cx)
    (ha : appendA (Ctx.of P gl eqT) st xt s x h = some (v, h')) (hs : VRel P F m s cs) (hx : VRel P F m x cx) (hr : HRel P F m h w) (hn : ∀ r, h.nx ≤ r → r < h'.nx → m r = none) :
    ∃ cv w' m', (Builtin.append_ ts ty args).run P w = .ok cv w' ∧ Step P F m h h' w w' m' ∧ VRel P F m' v cv := by
  unfold appendA at ha
  split at ha
  case h_2 => cases ha
  rename_i e size isAgg zero zeroOk bytes comparable zv xi k hst hxt hk
  have hu := ti_underlying hst
  dsimp only at hu
  have hux := ti_underlying hxt
  split at ha
  · cases ha
  · cases ha
  rename_i y hy hsrc
  split at ha
  · cases ha
  rename_i new hnew
  cases hc : (new.all isCell && (Nat.ble y.bytes 1000000 && Nat.beq new.length (Nat.mul k y.size))) with
  | false => rw [hc] at ha; cases ha
  | true =>
  rw [hc] at ha
  simp only [cond_true] at ha
  obtain ⟨c1, c2⟩ := and_bool hc
  obtain ⟨c2, c3⟩ := and_bool c2
  have c2 := Nat.le_of_ble_eq_true c2
  have c3 : new.length = k * y.size := Nat.eq_of_beq_eq_true c3
  obtain ⟨i, hi, e1, e2, _⟩ := ti_info hy
  obtain ⟨arr, hF, hnl⟩ := firstCells_rel (w0 := w) hnew hx hr rfl
  obtain ⟨arr', hF', hnl'⟩ := firstCells_rel (w0 := w.drew) hnew hx hr rfl
  rw [e1] at hF hF'
  have hL := lenA_rel (w := w) hk hx
  split at ha
  · -- a nil slice
    obtain rfl := hs.nilsl_inv
    cases hk0 : Nat.beq k 0 with
    | true =>
      rw [hk0] at ha
      cases ha
      have hk0 := Nat.eq_of_beq_eq_true hk0
      subst hk0
      exact ⟨_, w, m, run_append_in t0 t1 hu hux hsrc hi a0 a1 hL hF (Nat.le_refl _) (by simp), Step.refl hr rfl (SameOut.refl w), .nilsl⟩
    | false =>
      rw [hk0] at ha
      simp only [cond_false] at ha
      obtain ⟨hb, he⟩ := cond_some ha
      cases he
      obtain ⟨hz, hb⟩ := and_bool hb
      have hb := Nat.le_of_ble_eq_true hb
      have hkp : 0 < k := by rw [beq_nat] at hk0; simp at hk0; omega
      obtain ⟨i', z, hi', hiz, hsz, hzl, hzs⟩ := ti_zero (P := P) (F := F) (m := m) hy hz
      rw [hi] at hi'; cases hi'
      obtain ⟨cap, rest, hcap, hrest, hrun⟩ := run_append_out (olds := #[]) t0 t1 hu hux hsrc hi hiz a0 a1 hL hF' (by simp [Builtin.firstCells]) (by omega) (by omega) (by omega)
      have hn' := hn h.nx (Nat.le_refl _) (Nat.lt_succ_self _)
      obtain ⟨g1, g2⟩ := hnl'.append_rest (rest := rest)
      rw [Nat.zero_add] at hcap hrest hrun
      simp only [Array.empty_append] at hrun
      refine ⟨_, _, _, hrun, newRow_stepD hr hn' e g1 g2 rfl ⟨rfl, rfl, rfl⟩, .sl (z := _) (Loc.put_same _ _ _ _) (Nat.le_refl _) hcap (fun h => by cases h) ?_⟩
      have hal : arr'.size = k * y.size := by have := hnl'.len; simp at this; omega
      rw [Array.size_append, hal, hrest, hzs, ← Nat.add_mul, Nat.add_sub_cancel' hcap, Nat.zero_add]
      exact Nat.le_refl _
  · -- a slice of ours
    rename_i r o len cap es ex
    obtain ⟨b, z, ccap, hm, rfl, h1, h2, h3, h4⟩ := hs.sl_inv
    split at ha
    case h_2 => cases ha
    rename_i e' ccs hg
    cases hc2 : (Nat.beq es y.size && (Nat.ble (Nat.add o (Nat.mul len es)) ccs.length && Nat.ble (Nat.add len k) 1000000)) with
    | false => rw [hc2] at ha; cases ha
    | true =>
    rw [hc2] at ha
    simp only [cond_true] at ha
    obtain ⟨d1, d2⟩ := and_bool hc2
    obtain ⟨d2, d3⟩ := and_bool d2
    obtain rfl := Nat.eq_of_beq_eq_true d1
    have d2 : o + len * y.size ≤ ccs.length := Nat.le_of_ble_eq_true d2
    have d3 : len + k ≤ 1000000 := Nat.le_of_ble_eq_true d3
    obtain ⟨row, g1, g2, g3, g4⟩ := hr.obj r _ b z hg hm
    cases hin : Nat.ble (Nat.add len k) cap with
    | true =>
      rw [hin] at ha
      have hin : len + k ≤ cap := Nat.le_of_ble_eq_true hin
      obtain ⟨hfit, he⟩ := cond_some ha
      cases he
      have hfit : o + len * y.size + new.length ≤ ccs.length := Nat.le_of_ble_eq_true hfit
      obtain ⟨w', hst', hstep⟩ := Step.cells hr hg hm hnl c1 hfit
      refine ⟨_, w', m, run_append_in t0 t1 hu hux hsrc hi a0 a1 hL hF (by omega) ?_, hstep, .sl hm hin h2 h3 h4⟩
      rw [← e1]; simp only [add_none]; exact hst'
    | false =>
      rw [hin] at ha
      have hin : cap < len + k := by
        rcases Nat.lt_or_ge cap (len + k) with h' | h'
        · exact h'
        · have : Nat.ble (Nat.add len k) cap = true := Nat.ble_eq_true_of_le h'
          rw [this] at hin; cases hin
      simp only [cond_false] at ha
      cases hz : y.zeroOk with
      | false => rw [hz] at ha; cases ha
      | true =>
      rw [hz] at ha
      simp only [Bool.not_true, cond_false] at ha
      obtain ⟨i', zv, hi', hiz, hsz, hzl, hzs⟩ := ti_zero (P := P) (F := F) (m := m) hy hz
      rw [hi] at hi'; cases hi'
      -- what lies in the slice
      have hO : ∀ w0 : World, w0.heap = w.heap → ∃ olds, (Builtin.firstCells y.size len (.slice (some ⟨b, o, none⟩) len ccap)).run P w0 = .ok olds w0 ∧ LRel P F m ((ccs.drop o).take (len * y.size)) olds.toList := fun w0 hw0 => by
        refine firstCells_rel (h := h) (es := y.size) (k := len) (x := .sl r o len cap y.size ex) (w := w) ?_ hs hr hw0
        unfold srcCells
        have e3 : (Nat.ble len len && Nat.beq y.size y.size) = true := by simp
        dsimp only
        rw [e3, hg]
        simp only [cond_true]
        unfold sub
        have e4 : Nat.ble (Nat.add o (Nat.mul len y.size)) ccs.length = true := Nat.ble_eq_true_of_le d2
        rw [e4]; rfl
      -- in a new block
      have out : ∀ (hh : Hp) (ec : TypeId), ec = e → HRel P F m hh w → hh.nx = h.nx → m h.nx = none → ccap < len + k → ∃ cv w' m', (Builtin.append_ ts ty args).run P w = .ok cv w' ∧
          Step P F m hh (hh.new (.cells ec ((ccs.drop o).take (len * y.size) ++ new))) w w' m' ∧ VRel P F m' (.sl h.nx 0 (len + k) (len + k) y.size false) cv := by
        intro hh ec hec hrr hnx hn0 hlt
        subst hec
        obtain ⟨olds, hO1, hO2⟩ := hO w.drew rfl
        rw [e1] at hO1
        obtain ⟨ncap, rest, hcap, hrest, hrun⟩ := run_append_out t0 t1 hu hux hsrc hi hiz a0 a1 hL hF' hO1 hlt d3 (by omega)
        have hn' : m hh.nx = none := by rw [hnx]; exact hn0
        have hon : LRel P F m ((ccs.drop o).take (len * y.size) ++ new) (olds ++ arr').toList := by
          rw [Array.toList_append]; exact hO2.append hnl'
        obtain ⟨g1', g2'⟩ := hon.append_rest (rest := rest)
        refine ⟨_, _, _, hrun, newRow_stepD hrr hn' ec g1' g2' rfl ⟨rfl, rfl, rfl⟩, ?_⟩
        rw [← hnx]
        refine .sl (z := _) (Loc.put_same _ _ _ _) (Nat.le_refl _) hcap (fun h => by cases h) ?_
        have hal : arr'.size = k * y.size := by have := hnl'.len; simp at this; omega
        have hol : olds.size = len * y.size := by have := hO2.len; simp at this; omega
        rw [Array.size_append, Array.size_append, hal, hol, hrest, hzs, Nat.zero_add, ← Nat.add_mul, ← Nat.add_mul, Nat.add_sub_cancel' hcap]
        exact Nat.le_refl _
      cases hex : ex with
      | true =>
        rw [hex] at ha
        simp only [cond_true] at ha
        cases ha
        exact out h e rfl hr rfl (hn h.nx (Nat.le_refl _) (Nat.lt_succ_self _)) (by have := h3 hex; omega)
      | false =>
        rw [hex] at ha
        simp only [cond_false] at ha
        cases ho : (Nat.beq o 0 && Nat.ble (Nat.mul len y.size) ccs.length) with
        | false => rw [ho] at ha; cases ha
        | true =>
        rw [ho] at ha
        simp only [cond_true] at ha
        obtain ⟨hee, he⟩ := cond_some ha
        cases he
        obtain rfl := Nat.eq_of_beq_eq_true hee
        obtain rfl := Nat.eq_of_beq_eq_true (and_bool ho).1
        have hn' := hn h.nx (Nat.le_refl _) (Nat.lt_succ_self _)
        rw [Nat.zero_add] at d2
        rcases Nat.lt_or_ge ccap (len + k) with hlt | hge
        · -- it grows
          have hput := Step.put (w' := w) hr hg rfl hm (o := .dead) g1 (fun _ _ => rfl) rfl (SameOut.refl w) trivial
          obtain ⟨cv, w', m', hrun, hstep, hv⟩ := out (h.put r .dead) e rfl hput.rel rfl hn' hlt
          refine ⟨cv, w', m', hrun, ?_, hv⟩
          have := hput.trans hstep
          simpa using this
        · -- there is room
          have hal : new.length = arr.size := by have := hnl.len; simpa using this
          have hfit : len * y.size + arr.toList.length ≤ row.size := by
            rw [Array.length_toList, ← hal, c3, ← Nat.add_mul, g2]
            have : (len + k) * y.size ≤ ccap * y.size := Nat.mul_le_mul_right _ hge
            omega
          have hst' := run_storeCells_at P b (len * y.size) e arr.toList 0 row w g1 (by simpa using hfit) (hnl.one c1)
          simp only [Nat.add_zero] at hst'
          have hat := setRow_heap w b row (row.toList.take (len * y.size) ++ arr.toList ++ row.toList.drop (len * y.size + arr.toList.length)).toArray e (0, 0) g1
          refine ⟨_, _, m.put h.nx b z, run_append_in t0 t1 hu hux hsrc hi a0 a1 hL hF (by omega) (by rw [← e1]; simp only [add_none, Nat.zero_add]; exact hst'),
            Step.moveIn hr hn' hg rfl hm (o := .cells e (ccs.take (len * y.size) ++ new)) hat (fun c hcb => setRow_other w b c _ hcb) (setRow_size w b _) ⟨rfl, rfl, rfl⟩ ?_, ?_⟩
          · refine ⟨_, rfl, by simp at hfit ⊢; omega, by simp at hfit ⊢; omega, fun j p q hp hq => ?_⟩
            have hq : ((row.toList.take (len * y.size) ++ arr.toList) ++ row.toList.drop (len * y.size + arr.toList.length))[j]? = some q := by simpa using hq
            have hjl : j < (ccs.take (len * y.size) ++ new).length := (List.getElem?_eq_some_iff.1 hp).1
            simp at hjl hfit
            rw [List.getElem?_append_left (by simp; omega)] at hq
            have hpre : LRel P F m (ccs.take (len * y.size) ++ new) (row.toList.take (len * y.size) ++ arr.toList) := by
              refine LRel.append ⟨by simp; omega, fun i' x' y' hx' hy' => ?_⟩ hnl
              rw [List.getElem?_take] at hx' hy'
              split at hx'
              · rename_i hi'; rw [if_pos hi'] at hy'; exact g4 i' x' y' hx' (by simpa using hy')
              · cases hx'
            exact (hpre.at' j p q hp hq).mono (Loc.le_put hn')
          · refine .sl (z := z) (Loc.put_same _ _ _ _) (Nat.le_refl _) hge (fun h => by cases h) h4
  · cases ha

theorem copyA_rel {dt ty : TypeId} {d x v : AV} {cd cx : Value} {ts : Array TypeId} {args : Array Value} {h h' : Hp} {w : World} (t0 : ts[0]? = some dt) (a0 : args[0]? = some cd) (a1 : args[1]? = some cx)
    (ha : copyA (Ctx.of P gl eqT) dt d x h = some (v, h')) (hd : VRel P F m d cd) (hx : VRel P F m x cx) (hr : HRel P F m h w) :
    ∃ cv w', (Builtin.copy_ ts ty args).run P w = .ok cv w' ∧ Step P F m h h' w w' m ∧ VRel P F m v cv := by
  unfold copyA at ha
  split at ha
  case h_2 => cases ha
  rename_i e size isAgg zero zeroOk bytes comparable zv n k hst hn hk
  have hu := ti_underlying hst
  dsimp only at hu
  split at ha
  · cases ha
  rename_i y hy
  obtain ⟨i, hi, e1, e2, _⟩ := ti_info hy
  have hL := lenA_rel (w := w) hk hx
  have hmin : (bif Nat.ble k n then k else n) = Nat.min k n := by
    cases hkn : Nat.ble k n with
    | true => have := Nat.le_of_ble_eq_true hkn; simp only [cond_true]; exact (Nat.min_eq_left this).symm
    | false =>
      have : n ≤ k := by
        rcases Nat.lt_or_ge n k with h' | h'
        · omega
        · have : Nat.ble k n = true := Nat.ble_eq_true_of_le h'
          rw [this] at hkn; cases hkn
      simp only [cond_false]; exact (Nat.min_eq_right this).symm
  dsimp only at ha
  rw [hmin] at ha
  split at ha
  · rename_i new hnew
    obtain ⟨hb, he⟩ := cond_some ha
    cases he
    obtain rfl := hd.nilsl_inv
    cases hn
    obtain ⟨arr, hF, hnl⟩ := firstCells_rel (w0 := w) hnew hx hr rfl
    rw [e1] at hF
    refine ⟨.int .i64 (.ofNat (Nat.min k 0)), w, ?_, Step.refl hr rfl (SameOut.refl w), .int _ _⟩
    simp [Builtin.copy_, t0, a0, a1, run_underlying hu, sizeOf, typeInfo, hi, hL, goInt] at hF ⊢
    simp [hF]
  · rename_i new r o len cap es ex hnew
    split at ha
    case h_2 => cases ha
    rename_i e' ccs hg
    obtain ⟨hc, he⟩ := cond_some ha
    cases he
    obtain ⟨c1, hc⟩ := and_bool hc
    obtain ⟨c2, hc⟩ := and_bool hc
    obtain ⟨c3, c4⟩ := and_bool hc
    obtain rfl := Nat.eq_of_beq_eq_true c2
    have c4 : o + new.length ≤ ccs.length := Nat.le_of_ble_eq_true c4
    obtain ⟨b, z, ccap, hm, rfl, h1, h2, h3, h4⟩ := hd.sl_inv
    cases hn
    obtain ⟨arr, hF, hnl⟩ := firstCells_rel (w0 := w) hnew hx hr rfl
    rw [e1] at hF
    obtain ⟨w', hst', hstep⟩ := Step.cells hr hg hm hnl c1 c4
    refine ⟨.int .i64 (.ofNat (Nat.min k n)), w', ?_, hstep, .int _ _⟩
    simp [Builtin.copy_, t0, a0, a1, run_underlying hu, sizeOf, typeInfo, hi, hL, hF, hst', goInt]
  · cases ha
end
end Go.Ax

/- Maps; what interface values are asked. -/
namespace Go.Ax
section
variable {P : Program} {F : Nat → Option Obj} {m : Loc} {gl : Nat → AV} {eqT : Knob}

theorem cond_some' {α : Type} {c : Bool} {a : Option α} {x : α} (h : (bif c then a else none) = some x) : c = true ∧ a = some x := by cases c <;> first | exact ⟨rfl, h⟩ | cases h
def notCells : Obj → Bool
  | .cells .. => false
  | _ => true
theorem run_getObj {w : World} {r : Nat} {o : Obj} (h : w.heap[r]? = some o) (hc : notCells o = true) : (getObj r).run P w = .ok o w := by
  cases o with
  | cells _ _ _ => cases hc
  | _ => simp [getObj, Sem.run, h]
theorem run_setObj {w : World} {r : Nat} {o : Obj} (h : w.heap[r]? = some o) (hc : notCells o = true) (o' : Obj) : (setObj r o').run P w = .ok () { w with heap := w.heap.setIfInBounds r o' } := by
  cases o with
  | cells _ _ _ => cases hc
  | _ => simp [setObj, Sem.run, h]
/-- An object turned. -/
theorem Step.obj {h : Hp} {w : World} (hr : HRel P F m h w) {r : Nat} {q : AObj} {b z : Nat} (hg : h.get r = some q) (hq : q.live = true) (hm : m r = some (b, z)) {o : AObj} {ob : Obj} (ho : ORel P F m z o (some ob)) :
    Step P F m h (h.put r o) w { w with heap := w.heap.setIfInBounds b ob } m := by
  have hlt := hr.lt hg hq hm
  refine Step.put hr hg hq hm (by simp [hlt]) (fun c hc => ?_) (by simp) ⟨rfl, rfl, rfl⟩ ho
  simp [Array.getElem?_setIfInBounds_ne (Ne.symm hc)]

theorem run_forIn_unit {α : Type} {f : α → PUnit → Sem (ForInStep PUnit)} {w : World} : ∀ (l : List α), (∀ x ∈ l, (f x ⟨⟩).run P w = .ok (.yield ⟨⟩) w) → (forIn l PUnit.unit f : Sem PUnit).run P w = .ok ⟨⟩ w
  | [], _ => by simp
  | x :: l, h => by
    simp only [List.forIn_cons, Sem.run_bind, h x List.mem_cons_self, Result.andThen_ok]
    exact run_forIn_unit l fun y hy => h y (List.mem_cons_of_mem _ hy)
theorem run_checkKey_int {kt : TypeId} {k : IntKind} (hu : P.underlying kt = some (.int k)) (e : Bool) (v : Value) (n : Nat) (w : World) : (Instr.checkKey e (n + 1) kt v).run P w = .ok () w := by
  simp [Instr.checkKey, run_underlying hu]
theorem isIntT_iff {d : TypeDesc} (h : isIntT d = true) : ∃ k, d = .int k := by cases d <;> first | exact ⟨_, rfl⟩ | cases h
theorem checkKey_rel {kt : TypeId} {k : AV} {ck : Value} (hk : VRel P F m k ck) (ho : keyOk (Ctx.of P gl eqT) kt k = true) (e : Bool) (w : World) : (Instr.checkKey e 10000 kt ck).run P w = .ok () w := by
  unfold keyOk at ho
  split at ho
  · rename_i ti kd n ht
    obtain ⟨j, hj⟩ := isIntT_iff ho
    have hu := ti_underlying ht
    rw [hj] at hu
    exact run_checkKey_int hu e ck 9999 w
  · rename_i ti l ht
    have hu := ti_underlying ht
    obtain ⟨arr, rfl, ha⟩ := LRel.of_agg hk
    obtain ⟨_, ho⟩ := and_bool ho
    have one : ∀ (t : TypeId) (o : Nat → Nat), partInt (Ctx.of P gl eqT) l t o = true → ∃ y, (Ctx.of P gl eqT).ti t = some y ∧ ∃ cv, (part t arr (o y.size)).run P w = .ok cv w ∧ (Instr.checkKey e 9999 t cv).run P w = .ok () w := fun t o hp => by
      unfold partInt at hp
      split at hp
      case h_2 => cases hp
      rename_i y hy
      obtain ⟨h1, h2⟩ := and_bool hp
      obtain ⟨x, hx⟩ := Option.isSome_iff_exists.1 h2
      obtain ⟨cv, hr, _⟩ := part_rel (w := w) hy hx ha
      obtain ⟨j, hj⟩ := isIntT_iff h1
      have hu := ti_underlying hy
      rw [hj] at hu
      exact ⟨y, hy, cv, hr, run_checkKey_int hu e cv 9998 w⟩
    show (Instr.checkKey e (9999 + 1) kt (.agg arr)).run P w = .ok () w
    split at ho
    · rename_i n et hd
      rw [hd] at hu
      rw [Instr.checkKey]
      simp only [Sem.run_bind, run_underlying hu, Result.andThen_ok, Std.Legacy.Range.forIn_eq_forIn_range', Std.Legacy.Range.size]
      rw [run_forIn_unit _ fun i hi => ?_]
      · rfl
      have hi' : i ∈ List.range' 0 n := by simpa using hi
      obtain ⟨y, hy, cv, h1, h2⟩ := one et (fun s => i * s) (List.all_eq_true.1 ho i hi')
      simp only [Sem.run_bind, run_size_ti hy, Result.andThen_ok, h1, h2, Sem.run_pure]
    · rename_i fs hd
      rw [hd] at hu
      rw [Instr.checkKey]
      simp only [Sem.run_bind, run_underlying hu, Result.andThen_ok]
      rw [← Array.forIn_toList]
      rw [run_forIn_unit _ fun f hf => ?_]
      · rfl
      obtain ⟨y, hy, cv, h1, h2⟩ := one f.type (fun _ => f.offset) (List.all_eq_true.1 ho f hf)
      by_cases hn : f.name = "_"
      · simp [hn]
      · simp [hn, Sem.run_bind, Result.andThen_ok, h1, h2]
    · cases ho
  · cases ho
theorem findK_rel {C : Ctx} {kt : TypeId} {kk : IntKind} {k : AV} {ck : Value} (hki : ∃ kd a, k = .int kd a) (hk : VRel P F m k ck) : ∀ (es : List (AV × AV × Nat)) (ces : List MapEntry) (i : Nat) (r : Option (Nat × AV × Nat)), findK C kt k es i = some r → es.length = ces.length →
    (∀ (i : Nat) (x : AV × AV × Nat) (y : MapEntry), es[i]? = some x → ces[i]? = some y → ERel P F m x y) →
    match r with
    | none => Instr.findNow (.int kk) ck ces i = some none
    | some (j, v, b) => i ≤ j ∧ ∃ e, ces[j - i]? = some e ∧ Instr.findNow (.int kk) ck ces i = some (some (j, e.val)) ∧ VRel P F m v e.val ∧ b = e.born ∧ ∃ kd a, e.key = .int kd a ∧ ck = .int kd a
  | [], ces, i, r, h, hl, hc => by
    cases ces with
    | nil => cases h; rfl
    | cons _ _ => cases hl
  | (q, v, b) :: es, ces, i, r, h, hl, hc => by
    cases ces with
    | nil => cases hl
    | cons e ces =>
      have he := hc 0 _ _ rfl rfl
      unfold findK at h
      have hke : ∃ kd a kd' b', k = .int kd a ∧ q = .int kd' b' := by
        unfold keyEq at h
        split at h
        · rename_i hq
          split at hq
          · exact ⟨_, _, _, _, rfl, rfl⟩
          · obtain ⟨_, _, hki⟩ := hki; cases hki
          · cases hq
        · rename_i hq
          split at hq
          · exact ⟨_, _, _, _, rfl, rfl⟩
          · obtain ⟨_, _, hki⟩ := hki; cases hki
          · cases hq
        · cases h
      obtain ⟨kd, a, kd', b', rfl, rfl⟩ := hke
      obtain rfl := hk.int_inv
      have hek := he.key.int_inv
      have hs : keyEq C kt (.int kd a) (.int kd' b') = Instr.sameNow (.int kk) (.int kd a) e.key := by
        rw [hek]
        simp only [keyEq, Instr.sameNow]
        cases hkk : kindEq kd kd' with
        | true => obtain rfl := kindEq_iff hkk; simp [eqI_eq]
        | false =>
          have : kd ≠ kd' := fun e => by subst e; cases kd <;> cases hkk
          simp [this]
      rw [hs] at h
      split at h
      · rename_i ht
        cases h
        refine ⟨Nat.le_refl _, e, by simp, by simp [Instr.findNow, ht], he.val, he.born, kd', b', hek, ?_⟩
        rw [hek] at ht
        simp only [Instr.sameNow] at ht
        split at ht
        · rename_i hkk; subst hkk; simp at ht; rw [ht]
        · cases ht
      · rename_i hf
        have ih := findK_rel (kk := kk) hki hk es ces (i + 1) r h (by simpa using hl) (fun j x y hx hy => hc (j + 1) x y (by simpa using hx) (by simpa using hy))
        cases r with
        | none => simp only [Instr.findNow, hf]; exact ih
        | some t =>
          obtain ⟨j, v', b''⟩ := t
          obtain ⟨h1, e', h2, h3, h4⟩ := ih
          refine ⟨by omega, e', ?_, by simp only [Instr.findNow, hf]; exact h3, h4⟩
          have : j - i = (j - (i + 1)) + 1 := by omega
          rw [this]; simpa using h2
      · cases h
theorem ints_same {n : Nat} : ∀ {a b : List AV} {xs ys : List Value}, sameInts a b = true → LRel P F m a xs → LRel P F m b ys → xs = ys ∧ (xs.zip xs).all (fun x => Instr.sameBits n x.1 x.2) = true
  | [], [], xs, ys, _, ha, hb => by cases ha.cases_nil; cases hb.cases_nil; exact ⟨rfl, rfl⟩
  | x :: l, y :: k, xs, ys, h, ha, hb => by
    obtain ⟨u, xs', rfl, h1, h2⟩ := ha.cases_cons
    obtain ⟨v, ys', rfl, h3, h4⟩ := hb.cases_cons
    unfold sameInts at h
    split at h
    · rename_i e1 e2; cases e1
    · rename_i kk p l' j q k' e1 e2
      cases e1; cases e2
      obtain ⟨g1, g2⟩ := and_bool h
      obtain ⟨g2, g3⟩ := and_bool g2
      obtain rfl := kindEq_iff g1
      rw [eqI_eq] at g2
      have g2 : p = q := by simpa using g2
      subst g2
      obtain rfl := h1.int_inv
      obtain rfl := h3.int_inv
      obtain ⟨e, f⟩ := ints_same (n := n) g3 h2 h4
      subst e
      refine ⟨rfl, ?_⟩
      rw [List.zip_cons_cons, List.all_cons, f]
      simp [Instr.sameBits]
    · cases h
  | [], _ :: _, _, _, h, _, _ => by simp [sameInts] at h
  | _ :: _, [], _, _, h, _, _ => by simp [sameInts] at h
theorem findAsk_rel (hE : EqOk P eqT) {kt : TypeId} {l : List AV} {arr : Array Value} (hk : LRel P F m l arr.toList) (w : World) : ∀ (es : List (AV × AV × Nat)) (ces : List MapEntry) (i : Nat) (r : Option (Nat × AV × Nat)), findK (Ctx.of P gl eqT) kt (.agg l) es i = some r → es.length = ces.length →
    (∀ (i : Nat) (x : AV × AV × Nat) (y : MapEntry), es[i]? = some x → ces[i]? = some y → ERel P F m x y) →
    match r with
    | none => (Instr.findAsking kt (.agg arr) ces i).run P w = .ok none w
    | some (j, v, b) => i ≤ j ∧ ∃ e, ces[j - i]? = some e ∧ (Instr.findAsking kt (.agg arr) ces i).run P w = .ok (some (j, e.val)) w ∧ VRel P F m v e.val ∧ b = e.born ∧ (Instr.keyThatStays e.key (.agg arr)).run P w = .ok (.agg arr) w
  | [], ces, i, r, h, hl, hc => by
    cases ces with
    | nil => cases h; simp [Instr.findAsking]
    | cons _ _ => cases hl
  | (q, v, b) :: es, ces, i, r, h, hl, hc => by
    cases ces with
    | nil => cases hl
    | cons e ces =>
      have he := hc 0 _ _ rfl rfl
      unfold findK at h
      have hq : ∃ k, q = .agg k ∧ ∃ u, eqA (Ctx.of P gl eqT) 100 kt (.agg l) (.agg k) = some u ∧ keyEq (Ctx.of P gl eqT) kt (.agg l) q = some u ∧ (u = true → sameInts l k = true) := by
        cases q with
        | agg k =>
          refine ⟨k, rfl, ?_⟩
          simp only [keyEq] at h ⊢
          cases hu : eqA (Ctx.of P gl eqT) 100 kt (.agg l) (.agg k) with
          | none => rw [hu] at h; cases h
          | some u =>
            cases u with
            | false => exact ⟨false, rfl, rfl, fun h => by cases h⟩
            | true =>
              cases hs : sameInts l k with
              | true => exact ⟨true, rfl, rfl, fun _ => rfl⟩
              | false => rw [hu, hs] at h; cases h
        | _ => cases h
      obtain ⟨k, rfl, u, hu, hke, hs⟩ := hq
      rw [hke] at h
      obtain ⟨brr, hb1, hb2⟩ := LRel.of_agg he.key
      have hrun := eqA_rel hE w 100 kt _ _ u hu _ _ (LRel.agg hk) he.key Op.maxDepth (by decide)
      cases u with
      | true =>
        cases h
        refine ⟨Nat.le_refl _, e, by simp, ?_, he.val, he.born, ?_⟩
        · simp only [Instr.findAsking, Op.equal, Sem.run_bind, hrun, Result.andThen_ok, if_true, Sem.run_pure]
        · obtain ⟨g1, g2⟩ := ints_same (n := 9999) (hs rfl) hk hb2
          have g1 : arr = brr := Array.toList_inj.1 g1
          subst g1
          rw [hb1]
          have : Instr.sameBits 10000 (.agg arr) (.agg arr) = true := by
            show (arr.size == arr.size && (arr.toList.zip arr.toList).all fun x => Instr.sameBits 9999 x.1 x.2) = true
            rw [g2]; simp
          simp [Instr.keyThatStays, this]
      | false =>
        have ih := findAsk_rel hE hk w es ces (i + 1) r h (by simpa using hl) (fun j x y hx hy => hc (j + 1) x y (by simpa using hx) (by simpa using hy))
        have hstep : (Instr.findAsking kt (.agg arr) (e :: ces) i).run P w = (Instr.findAsking kt (.agg arr) ces (i + 1)).run P w := by
          simp only [Instr.findAsking, Op.equal, Sem.run_bind, hrun, Result.andThen_ok, Bool.false_eq_true, if_false]
        cases r with
        | none => rw [hstep]; exact ih
        | some t =>
          obtain ⟨j, v', b''⟩ := t
          obtain ⟨h1, e', h2, h3, h4⟩ := ih
          refine ⟨by omega, e', ?_, by rw [hstep]; exact h3, h4⟩
          have : j - i = (j - (i + 1)) + 1 := by omega
          rw [this]; simpa using h2
theorem findKey_rel (hE : EqOk P eqT) {kt : TypeId} {k : AV} {ck : Value} (hk : VRel P F m k ck) (ho : keyOk (Ctx.of P gl eqT) kt k = true) {es : List (AV × AV × Nat)} {ces : List MapEntry} {r : Option (Nat × AV × Nat)} (hf : findK (Ctx.of P gl eqT) kt k es 0 = some r) (hl : es.length = ces.length)
    (hc : ∀ (i : Nat) (x : AV × AV × Nat) (y : MapEntry), es[i]? = some x → ces[i]? = some y → ERel P F m x y) (w : World) :
    match r with
    | none => (Instr.findKey kt ck ces).run P w = .ok none w
    | some (j, v, b) => ∃ e, ces[j]? = some e ∧ (Instr.findKey kt ck ces).run P w = .ok (some (j, e.val)) w ∧ VRel P F m v e.val ∧ b = e.born ∧ (Instr.keyThatStays e.key ck).run P w = .ok ck w := by
  unfold keyOk at ho
  split at ho
  · rename_i ti kd n ht
    obtain ⟨kk, hj⟩ := isIntT_iff ho
    have hu := ti_underlying ht
    rw [hj] at hu
    have g := findK_rel (kk := kk) ⟨_, _, rfl⟩ hk es ces 0 r hf hl hc
    cases r with
    | none => simp only [Instr.findKey, Sem.run_bind, run_underlying hu, Result.andThen_ok]; rw [g]; rfl
    | some t =>
      obtain ⟨j, v, b⟩ := t
      obtain ⟨_, e, g2, g3, g4, g5, kd', a', g6, g7⟩ := g
      rw [Nat.sub_zero] at g2
      refine ⟨e, g2, ?_, g4, g5, by simp [g6, g7, Instr.keyThatStays, Instr.sameBits]⟩
      simp only [Instr.findKey, Sem.run_bind, run_underlying hu, Result.andThen_ok]; rw [g3]; rfl
  · rename_i ti l ht
    obtain ⟨arr, rfl, ha⟩ := LRel.of_agg hk
    have hu := ti_underlying ht
    have hnow : es ≠ [] → Instr.findNow ti.desc (.agg arr) ces 0 = none := fun hne => by
      cases ces with
      | nil => cases es with
        | nil => exact absurd rfl hne
        | cons _ _ => cases hl
      | cons e ces =>
        have : Instr.sameNow ti.desc (.agg arr) e.key = none := by unfold Instr.sameNow; split <;> first | rfl | simp_all
        simp [Instr.findNow, this]
    cases es with
    | nil =>
      cases ces with
      | cons _ _ => cases hl
      | nil =>
        cases hf
        simp [Instr.findKey, run_underlying hu, Instr.findNow]
    | cons x es =>
      have g := findAsk_rel hE ha w (x :: es) ces 0 r hf hl hc
      have hst : (Instr.findKey kt (.agg arr) ces).run P w = (Instr.findAsking kt (.agg arr) ces 0).run P w := by
        simp only [Instr.findKey, Sem.run_bind, run_underlying hu, Result.andThen_ok]
        rw [hnow (by simp)]
      cases r with
      | none => rw [hst]; exact g
      | some t =>
        obtain ⟨j, v, b⟩ := t
        obtain ⟨_, e, g2, g3, g4⟩ := g
        rw [Nat.sub_zero] at g2
        exact ⟨e, g2, by rw [hst]; exact g3, g4⟩
  · cases ho
theorem run_lookup_at {t kt e : TypeId} (hu : P.underlying t = some (.map kt e)) {cx ck : Value} {ces : Array MapEntry} {w : World} {ok : Bool} {r : Option (Nat × Value)} (hck : ∀ b, (Instr.checkKey b 10000 kt ck).run P w = .ok () w)
    (hc : (cx = .map none ∧ ces = #[]) ∨ ∃ b clock, cx = .map (some b) ∧ w.heap[b]? = some (.map ces clock)) (hf : (Instr.findKey kt ck ces.toList).run P w = .ok r w) {zv : Value} (hz : r = none → (zeroValue e).run P w = .ok zv w) :
    (Instr.lookup t cx ck ok).run P w = .ok (match r with | some (_, v) => if ok then .tuple #[v, .bool true] else v | none => if ok then .tuple #[zv, .bool false] else zv) w := by
  rcases hc with ⟨rfl, rfl⟩ | ⟨b, clock, rfl, hb⟩
  · cases r with
    | some x => simp [Instr.lookup, run_underlying hu, hck, hf]
    | none => simp [Instr.lookup, run_underlying hu, hck, hf, hz rfl]
  · cases r with
    | some x => simp [Instr.lookup, run_underlying hu, run_getObj hb rfl, hck, hf]
    | none => simp [Instr.lookup, run_underlying hu, run_getObj hb rfl, hck, hf, hz rfl]
theorem lookupA_rel (hE : EqOk P eqT) {t : TypeId} {x k v : AV} {cx ck : Value} {ok : Bool} {h : Hp} {w : World} (hl : lookupA (Ctx.of P gl eqT) t x k ok h = some v) (hx : VRel P F m x cx) (hk : VRel P F m k ck) (hr : HRel P F m h w) :
    ∃ cv, (Instr.lookup t cx ck ok).run P w = .ok cv w ∧ VRel P F m v cv := by
  unfold lookupA at hl
  split at hl
  case h_2 => cases hl
  rename_i kt e size isAgg zero zeroOk bytes comparable zv ht
  have hu := ti_underlying ht
  dsimp only at hu
  split at hl
  case h_2 => cases hl
  rename_i kd y hkd hy
  split at hl
  case h_2 => cases hl
  rename_i es hes
  obtain ⟨ho, hl⟩ := cond_some' hl
  have hck := fun b => checkKey_rel hk ho b w
  have hces : ∃ ces : Array MapEntry, ((cx = .map none ∧ ces = #[]) ∨ ∃ b clock, cx = .map (some b) ∧ w.heap[b]? = some (.map ces clock)) ∧ es.length = ces.toList.length ∧ ∀ (i : Nat) (x : AV × AV × Nat) (y : MapEntry), es[i]? = some x → ces.toList[i]? = some y → ERel P F m x y := by
    unfold mapAt at hes
    split at hes
    · cases hes
      obtain rfl := hx.nilmap_inv
      exact ⟨#[], .inl ⟨rfl, rfl⟩, rfl, fun i x y h => by simp at h⟩
    · rename_i r
      split at hes
      case h_2 => cases hes
      rename_i es' clock hg
      cases hes
      obtain ⟨b, z, hm, rfl⟩ := hx.map_inv
      obtain ⟨ces, h1, h2, h3⟩ := hr.obj r _ b z hg hm
      exact ⟨ces, .inr ⟨b, clock, rfl, h1⟩, by simpa using h2, fun i x y hx hy => h3 i x y hx (by simpa using hy)⟩
    · cases hes
  obtain ⟨ces, hc1, hc2, hc3⟩ := hces
  split at hl
  · rename_i j b hf
    obtain ⟨e', h2, h3, h4, _⟩ := findKey_rel hE hk ho hf hc2 hc3 w
    cases hl
    refine ⟨_, run_lookup_at (zv := .nilFunc) hu hck hc1 h3 (fun h => by cases h), ?_⟩
    cases ok with
    | true => exact LRel.tup (.cons h4 (.cons (.bool true) .nil))
    | false => exact h4
  · rename_i hf
    have h3 := findKey_rel hE hk ho hf hc2 hc3 w
    dsimp only at h3
    obtain ⟨hz, he⟩ := cond_some hl
    cases he
    obtain ⟨zv, hzr, hzl⟩ := run_zv_ti (P := P) (F := F) (m := m) hy hz w
    refine ⟨_, run_lookup_at hu hck hc1 h3 (fun _ => hzr), ?_⟩
    cases ok with
    | true => exact LRel.tup (.cons hzl (.cons (.bool false) .nil))
    | false => exact hzl
  · cases hl
theorem mapPut_rel (hE : EqOk P eqT) {t : TypeId} {x k v : AV} {cx ck cv : Value} {h h' : Hp} {w : World} (hp : mapPut (Ctx.of P gl eqT) t x k v h = some h') (hx : VRel P F m x cx) (hk : VRel P F m k ck) (hv : VRel P F m v cv) (hr : HRel P F m h w) :
    ∃ w', (Instr.mapUpdate t cx ck cv).run P w = .ok () w' ∧ Step P F m h h' w w' m := by
  unfold mapPut at hp
  split at hp
  case h_2 => cases hp
  rename_i kt e size isAgg zero zeroOk bytes comparable zv r ht
  have hu := ti_underlying ht
  dsimp only at hu
  split at hp
  case h_2 => cases hp
  rename_i kd es clock hkd hg
  obtain ⟨ho, hp⟩ := cond_some' hp
  have hck := fun b => checkKey_rel hk ho b w
  obtain ⟨b, z, hm, rfl⟩ := hx.map_inv
  obtain ⟨ces, h1, h2, h3⟩ := hr.obj r _ b z hg hm
  have h2' : es.length = ces.toList.length := by simpa using h2
  have h3' : ∀ (i : Nat) (x : AV × AV × Nat) (y : MapEntry), es[i]? = some x → ces.toList[i]? = some y → ERel P F m x y := fun i x y hx hy => h3 i x y hx (by simpa using hy)
  split at hp
  · rename_i j v0 b0 hf
    obtain ⟨e', g2, g3, g4, g5, g6⟩ := findKey_rel hE hk ho hf h2' h3' w
    cases hp
    have g2' : ces[j]? = some e' := by simpa using g2
    have hkeep : (Instr.keyThatStays (((ces[j]?).map (·.key)).getD ck) ck).run P w = .ok ck w := by
      rw [g2']; exact g6
    refine ⟨_, ?_, Step.obj hr hg rfl hm (ob := .map (ces.modify j fun e => { e with key := ck, val := cv }) clock) ⟨_, rfl, by simp [setAt, h2], fun i x y hx hy => ?_⟩⟩
    · simp only [Instr.mapUpdate, Sem.run_bind, run_underlying hu, Result.andThen_ok, run_getObj h1 rfl, hck, g3]
      rw [hkeep]
      simp only [Result.andThen_ok, run_setObj h1 rfl]
    · unfold setAt at hx
      rw [List.getElem?_set] at hx
      rw [Array.getElem?_modify] at hy
      by_cases hij : j = i
      · subst hij
        have hlt : j < es.length := by rw [h2']; exact (List.getElem?_eq_some_iff.1 g2).1
        rw [if_pos rfl, if_pos hlt] at hx
        rw [if_pos rfl, g2'] at hy
        cases hx; cases hy
        exact ⟨hk, hv, g5⟩
      · rw [if_neg hij] at hx
        rw [if_neg hij] at hy
        exact h3 i x y hx hy
  · rename_i hf
    have g3 := findKey_rel hE hk ho hf h2' h3' w
    dsimp only at g3
    cases hp
    refine ⟨_, ?_, Step.obj hr hg rfl hm (ob := .map (ces.push { key := ck, val := cv, born := clock }) (clock + 1)) ⟨_, rfl, by simp [h2], fun i x y hx hy => ?_⟩⟩
    · simp only [Instr.mapUpdate, Sem.run_bind, run_underlying hu, Result.andThen_ok, run_getObj h1 rfl, hck, g3, run_setObj h1 rfl]
    · by_cases hi : i < es.length
      · rw [List.getElem?_append_left hi] at hx
        rw [Array.getElem?_push, if_neg (by omega)] at hy
        exact h3 i x y hx hy
      · rw [List.getElem?_append_right (by omega)] at hx
        have hi' : i = es.length := by
          have := (List.getElem?_eq_some_iff.1 hx).1
          simp at this; omega
        rw [Array.getElem?_push, if_pos (by omega)] at hy
        subst hi'
        simp at hx
        cases hy; subst hx
        exact ⟨hk, hv, rfl⟩
  · cases hp

theorem mapDel_rel (hE : EqOk P eqT) {t rt : TypeId} {ts : Array TypeId} {x k : AV} {cx ck : Value} {h h' : Hp} {w : World} (hp : mapDel (Ctx.of P gl eqT) t x k h = some h') (hts : ts[0]? = some t) (hx : VRel P F m x cx) (hk : VRel P F m k ck) (hr : HRel P F m h w) :
    ∃ w', (Builtin.delete_ ts rt #[cx, ck]).run P w = .ok (.tuple #[]) w' ∧ Step P F m h h' w w' m := by
  unfold mapDel at hp
  split at hp
  case h_2 => cases hp
  rename_i kt e size isAgg zero zeroOk bytes comparable zv r ht
  have hu := ti_underlying ht
  dsimp only at hu
  split at hp
  case h_2 => cases hp
  rename_i kd es clock hkd hg
  obtain ⟨ho, hp⟩ := cond_some' hp
  have hck := fun b => checkKey_rel hk ho b w
  obtain ⟨b, z, hm, rfl⟩ := hx.map_inv
  obtain ⟨ces, h1, h2, h3⟩ := hr.obj r _ b z hg hm
  have h2' : es.length = ces.toList.length := by simpa using h2
  have h3' : ∀ (i : Nat) (x : AV × AV × Nat) (y : MapEntry), es[i]? = some x → ces.toList[i]? = some y → ERel P F m x y := fun i x y hx hy => h3 i x y hx (by simpa using hy)
  split at hp
  · rename_i j v0 b0 hf
    obtain ⟨e', g2, g3, g4, g5, g6⟩ := findKey_rel hE hk ho hf h2' h3' w
    cases hp
    refine ⟨_, ?_, Step.obj hr hg rfl hm (ob := .map (ces.eraseIdxIfInBounds j) clock) ⟨_, rfl, ?_, fun i x y hx hy => ?_⟩⟩
    · simp only [Builtin.delete_, hts, Sem.run_bind, run_underlying hu, Result.andThen_ok, run_getObj h1 rfl, hck, g3, run_setObj h1 rfl, List.getElem?_toArray, List.getElem?_cons_zero, List.getElem?_cons_succ]
      rfl
    · have : (ces.eraseIdxIfInBounds j).toList = ces.toList.eraseIdx j := by simp
      rw [← Array.length_toList, this, List.length_eraseIdx, List.length_eraseIdx, h2']
    · rw [← Array.getElem?_toList, Array.toList_eraseIdxIfInBounds, List.getElem?_eraseIdx] at hy
      rw [List.getElem?_eraseIdx] at hx
      by_cases hij : i < j
      · rw [if_pos hij] at hx hy; exact h3' i x y hx hy
      · rw [if_neg hij] at hx hy; exact h3' (i + 1) x y hx hy
  · rename_i hf
    have g3 := findKey_rel hE hk ho hf h2' h3' w
    dsimp only at g3
    cases hp
    refine ⟨_, ?_, Step.obj hr hg rfl hm (ob := .map ces clock) ⟨_, rfl, h2, h3⟩⟩
    simp only [Builtin.delete_, hts, Sem.run_bind, run_underlying hu, Result.andThen_ok, run_getObj h1 rfl, hck, g3, run_setObj h1 rfl, List.getElem?_toArray, List.getElem?_cons_zero, List.getElem?_cons_succ]
    rfl
  · cases hp

/-! ### Interface values -/
theorem least_cons {x : String} {l : List String} : ∃ s, Instr.least (x :: l) = some s := ⟨_, rfl⟩
theorem least_part (p : String → Bool) (g : String → String) {missing : List String} (hne : missing ≠ []) : ∃ s, (Instr.least (missing.partition p).2 <|> Instr.least ((missing.partition p).1.map g)) = some s := by
  rw [List.partition_eq_filter_filter]
  dsimp only
  generalize hE : List.filter (not ∘ p) missing = E
  generalize hU : List.filter p missing = U
  have key : E ≠ [] ∨ U ≠ [] := by
    subst hE hU
    cases missing with
    | nil => exact absurd rfl hne
    | cons x l =>
      cases hc : p x with
      | true => exact .inr (by rw [List.filter_cons, hc]; exact nofun)
      | false => exact .inl (by rw [List.filter_cons, show (not ∘ p) x = true from congrArg not hc]; exact nofun)
  cases E with
  | cons x l => exact ⟨_, rfl⟩
  | nil =>
    cases U with
    | nil => rcases key with h | h <;> exact absurd rfl h
    | cons x l => exact ⟨_, rfl⟩
theorem missing_none {want : Array (String × TypeId)} {got : Array Method} (h : allThere want got = true) : Instr.missingMethod want got = none := by
  unfold allThere at h
  have : (want.toList.filter fun x => !got.any fun m => m.name == x.1 && m.sig == x.2) = [] := by
    rw [List.filter_eq_nil_iff]
    intro x hx
    have := List.all_eq_true.1 h x hx
    simp only [this]
    decide
  unfold Instr.missingMethod
  simp only [this]
  rfl
theorem missing_some {want : Array (String × TypeId)} {got : Array Method} (h : allThere want got = false) : ∃ s, Instr.missingMethod want got = some s := by
  unfold allThere at h
  have hne : ((want.toList.filter fun x => !got.any fun m => m.name == x.1 && m.sig == x.2).map (·.1)) ≠ [] := fun e => by
    have e := List.map_eq_nil_iff.1 e
    rw [List.filter_eq_nil_iff] at e
    have : (want.toList.all fun x => got.any fun m => m.name == x.1 && m.sig == x.2) = true := by
      rw [List.all_eq_true]
      intro x hx
      have := e x hx
      simpa using this
    rw [this] at h; cases h
  unfold Instr.missingMethod
  generalize hm : ((want.toList.filter fun x => !got.any fun m => m.name == x.1 && m.sig == x.2).map (·.1)) = missing at hne
  have hm' : (List.map (fun x : String × TypeId => x.1) (List.filter (fun x => match x with | (name, sig) => !got.any fun m => m.name == name && m.sig == sig) want.toList)) = missing := hm
  dsimp only
  exact least_part _ _ hne
theorem typeAssertA_rel {x v : AV} {cx : Value} {xt t : TypeId} {ok : Bool} {w : World} (h : typeAssertA P (Ctx.of P gl eqT) x t ok = some v) (hx : VRel P F m x cx) : ∃ cv, (Instr.typeAssert cx xt t ok).run P w = .ok cv w ∧ VRel P F m v cv := by
  unfold typeAssertA at h
  split at h
  · cases h
  rename_i ti ht
  have hu := ti_underlying ht
  have hyes : ∀ {y : AV} {cy : Value} {v : AV}, VRel P F m y cy → some (bif ok then AV.tup [y, .bool true] else y) = some v → VRel P F m v (if ok then .tuple #[cy, .bool true] else cy) := by
    intro y cy v hy he
    cases he
    cases ok with
    | true => exact LRel.tup (.cons hy (.cons (.bool true) .nil))
    | false => exact hy
  have hno : ∀ {v : AV}, (bif ok && ti.zeroOk then some (AV.tup [ti.zv, .bool false]) else none) = some v → ∃ zv, ok = true ∧ (zeroValue t).run P w = .ok zv w ∧ VRel P F m v (.tuple #[zv, .bool false]) := by
    intro v he
    obtain ⟨hc, rfl⟩ := cond_some he
    obtain ⟨h1, h2⟩ := and_bool hc
    obtain ⟨zv, hz1, hz2⟩ := run_zv_ti (P := P) (F := F) (m := m) ht h2 w
    exact ⟨zv, h1, hz1, LRel.tup (.cons hz2 (.cons (.bool false) .nil))⟩
  dsimp only at h
  split at h
  · rename_i want u y hd
    rw [hd] at hu
    obtain ⟨cy, rfl, hy⟩ := hx.iface_inv
    split at h
    case h_2 => cases h
    rename_i i hi
    cases hat : allThere want i.methods with
    | true =>
      have hmm := missing_none hat
      rw [hat] at h
      exact ⟨_, by simp [Instr.typeAssert, run_underlying hu, typeInfo, hi, hmm], hyes (.iface u hy) h⟩
    | false =>
      obtain ⟨s, hmm⟩ := missing_some hat
      rw [hat] at h
      obtain ⟨zv, rfl, hz1, hz2⟩ := hno h
      exact ⟨_, by simp [Instr.typeAssert, run_underlying hu, typeInfo, hi, hmm, hz1], hz2⟩
  · obtain rfl := hx.nilif_inv
    obtain ⟨zv, rfl, hz1, hz2⟩ := hno h
    refine ⟨_, ?_, hz2⟩
    generalize ti.desc = d at hu
    cases d <;> simp [Instr.typeAssert, run_underlying hu, hz1]
  · cases h
  · rename_i u y hne
    obtain ⟨cy, rfl, hy⟩ := hx.iface_inv
    cases hb : Nat.beq u t with
    | true =>
      rw [hb] at h
      obtain rfl := Nat.eq_of_beq_eq_true hb
      refine ⟨_, ?_, hyes hy h⟩
      generalize ti.desc = d at hu hne
      cases d <;> first
        | (exact absurd rfl (hne _))
        | simp [Instr.typeAssert, run_underlying hu]
    | false =>
      rw [hb] at h
      have hut : u ≠ t := fun e => by subst e; rw [Nat.beq_refl] at hb; cases hb
      obtain ⟨zv, rfl, hz1, hz2⟩ := hno h
      refine ⟨_, ?_, hz2⟩
      generalize ti.desc = d at hu hne
      cases d <;> first
        | (exact absurd rfl (hne _))
        | simp [Instr.typeAssert, run_underlying hu, hut, hz1]
  · cases h
end
end Go.Ax

/- What an operation of the abstract machine says of the model's. -/
namespace Go.Ax

/-! ### Abstract memories, one behind the other -/
structure HpLe (h h' : Hp) : Prop where
  nx : h.nx ≤ h'.nx
  lo : h'.lo ≤ h.lo
  same : ∀ r, r < h.nx → r < h'.lo → h'.get r = h.get r
  wf : (∀ r, h.nx ≤ r → h.get r = none) → ∀ r, h'.nx ≤ r → h'.get r = none
theorem HpLe.refl (h : Hp) : HpLe h h := ⟨Nat.le_refl _, Nat.le_refl _, fun _ _ _ => rfl, fun h => h⟩
theorem HpLe.trans {a b c : Hp} (h : HpLe a b) (k : HpLe b c) : HpLe a c :=
  ⟨Nat.le_trans h.nx k.nx, Nat.le_trans k.lo h.lo, fun r h1 h2 => (k.same r (Nat.lt_of_lt_of_le h1 h.nx) h2).trans (h.same r h1 (Nat.lt_of_lt_of_le h2 k.lo)), fun hw => k.wf (h.wf hw)⟩
theorem HpLe.new (h : Hp) (o : AObj) : HpLe h (h.new o) :=
  ⟨Nat.le_succ _, Nat.le_refl _, fun r h1 _ => by rw [Hp.get_new, if_neg (by omega)], fun hw r hr => by
    have hr : h.nx + 1 ≤ r := hr
    rw [Hp.get_new, if_neg (by omega)]; exact hw r (by omega)⟩
theorem HpLe.put {h : Hp} {r : Nat} {q : AObj} (hg : h.get r = some q) (o : AObj) : HpLe h (h.put r o) := by
  refine ⟨Nat.le_refl _, ?_, fun s _ h2 => ?_, fun hw s hs => ?_⟩
  · show (bif Nat.ble h.lo r then h.lo else r) ≤ h.lo
    cases hb : Nat.ble h.lo r with
    | true => exact Nat.le_refl _
    | false =>
      simp only [cond_false]
      rcases Nat.lt_or_ge r h.lo with h' | h'
      · omega
      · have := Nat.ble_eq_true_of_le h'; rw [this] at hb; cases hb
  · have h2 : s < (bif Nat.ble h.lo r then h.lo else r) := h2
    have : s < r := by
      cases hb : Nat.ble h.lo r with
      | true => rw [hb] at h2; have := Nat.le_of_ble_eq_true hb; simp only [cond_true] at h2; omega
      | false => rw [hb] at h2; exact h2
    rw [Hp.get_put, if_neg (by omega)]
  · rw [Hp.get_put]
    split
    · rename_i e; subst e
      have := hw r hs
      rw [hg] at this; cases this
    · exact hw s hs

section
variable {P : Program} {gl : Nat → AV} {eqT : Knob} {C : Ctx} {h h' : Hp}
theorem alloc_le {t : TypeId} {v : AV} (ha : alloc C t h = some (v, h')) : HpLe h h' := by
  unfold alloc at ha
  split at ha
  · obtain ⟨_, he⟩ := cond_some ha; cases he; exact .new _ _
  · cases ha
theorem box_le {t : TypeId} {x v : AV} (ha : box t x h = some (v, h')) : HpLe h h' := by
  unfold box at ha
  split at ha
  · cases ha; exact .new _ _
  · cases ha
theorem buildSlice_le {t : TypeId} {n : Nat} {ps : List (Nat × AV)} {v : AV} (ha : buildSlice C t n ps h = some (v, h')) : HpLe h h' := by
  unfold buildSlice at ha
  split at ha
  case h_2 => cases ha
  split at ha
  case h_2 => cases ha
  rename_i x _
  cases hc : (x.zeroOk && Nat.ble (Nat.mul n x.size) 1000000) with
  | false => rw [hc] at ha; cases ha
  | true =>
    rw [hc] at ha
    simp only [cond_true] at ha
    split at ha
    · cases ha; exact .new _ _
    · cases ha
theorem makeSlice_le {t : TypeId} {l c v : AV} (ha : makeSlice C t l c h = some (v, h')) : HpLe h h' := by
  unfold makeSlice at ha
  split at ha
  case h_2 => cases ha
  split at ha
  case h_2 => cases ha
  obtain ⟨_, he⟩ := cond_some ha
  cases he; exact .new _ _
theorem storeAt_le {t : TypeId} {p v : AV} (ha : storeAt C t p v h = some h') : HpLe h h' := by
  unfold storeAt at ha
  split at ha
  case h_2 => cases ha
  split at ha
  case h_2 => cases ha
  rename_i hg
  obtain ⟨_, he⟩ := cond_some ha
  cases he; exact .put hg _
theorem mapPut_le {t : TypeId} {x k v : AV} (ha : mapPut C t x k v h = some h') : HpLe h h' := by
  unfold mapPut at ha
  split at ha
  case h_2 => cases ha
  split at ha
  case h_2 => cases ha
  rename_i hg
  obtain ⟨_, ha⟩ := cond_some' ha
  split at ha
  · cases ha; exact .put hg _
  · cases ha; exact .put hg _
  · cases ha
theorem mapDel_le {t : TypeId} {x k : AV} (ha : mapDel C t x k h = some h') : HpLe h h' := by
  unfold mapDel at ha
  split at ha
  case h_2 => cases ha
  split at ha
  case h_2 => cases ha
  rename_i hg
  obtain ⟨_, ha⟩ := cond_some' ha
  split at ha
  · cases ha; exact .put hg _
  · cases ha; exact .put hg _
  · cases ha
theorem appendA_le {st xt : TypeId} {s x v : AV} (ha : appendA C st xt s x h = some (v, h')) : HpLe h h' := by
  unfold appendA at ha
  split at ha
  case h_2 => cases ha
  rename_i e size isAgg zero zeroOk bytes comparable zv xi k hst hxt hk
  split at ha
  · cases ha
  · cases ha
  rename_i y hy hsrc
  split at ha
  · cases ha
  rename_i new hnew
  cases hc : (new.all isCell && (Nat.ble y.bytes 1000000 && Nat.beq new.length (Nat.mul k y.size))) with
  | false => rw [hc] at ha; cases ha
  | true =>
  rw [hc] at ha
  simp only [cond_true] at ha
  split at ha
  · cases hk : Nat.beq k 0 with
    | true => rw [hk] at ha; cases ha; exact .refl _
    | false => rw [hk] at ha; obtain ⟨_, he⟩ := cond_some ha; cases he; exact .new _ _
  · rename_i r o len cap es ex
    split at ha
    case h_2 => cases ha
    rename_i e' cs hg
    cases hc2 : (Nat.beq es y.size && (Nat.ble (Nat.add o (Nat.mul len es)) cs.length && Nat.ble (Nat.add len k) 1000000)) with
    | false => rw [hc2] at ha; cases ha
    | true =>
    rw [hc2] at ha
    simp only [cond_true] at ha
    cases hin : Nat.ble (Nat.add len k) cap with
    | true => rw [hin] at ha; obtain ⟨_, he⟩ := cond_some ha; cases he; exact .put hg _
    | false =>
      rw [hin] at ha
      simp only [cond_false] at ha
      cases hz : y.zeroOk with
      | false => rw [hz] at ha; cases ha
      | true =>
        rw [hz] at ha
        simp only [Bool.not_true, cond_false] at ha
        cases ex with
        | true => simp only [cond_true] at ha; cases ha; exact .new _ _
        | false =>
          simp only [cond_false] at ha
          cases ho : (Nat.beq o 0 && Nat.ble (Nat.mul len es) cs.length) with
          | false => rw [ho] at ha; cases ha
          | true =>
            rw [ho] at ha
            obtain ⟨_, he⟩ := cond_some ha
            cases he; exact (HpLe.put hg _).trans (.new _ _)
  · cases ha
theorem copyA_le {dt : TypeId} {d x v : AV} (ha : copyA C dt d x h = some (v, h')) : HpLe h h' := by
  unfold copyA at ha
  split at ha
  case h_2 => cases ha
  split at ha
  · cases ha
  dsimp only at ha
  split at ha
  · obtain ⟨_, he⟩ := cond_some ha; cases he; exact .refl _
  · split at ha
    case h_2 => cases ha
    rename_i hg
    obtain ⟨_, he⟩ := cond_some ha; cases he; exact .put hg _
  · cases ha
end

/-! ### States and frames -/
inductive DefRel (P : Program) (F : Nat → Option Obj) (m : Loc) : ADef → Deferred → Prop
  | coll {r b z : Nat} (h : m r = some (b, z)) : DefRel P F m (.coll r) { target := .collected b, args := #[] }
  | fn {g : FuncId} {cap args : List AV} {ccap cargs : Array Value} (h1 : LRel P F m cap ccap.toList) (h2 : LRel P F m args cargs.toList) : DefRel P F m (.fn (.func g) cap args) { target := .fn (.func g) ccap, args := cargs }
  | clr {t ty : TypeId} {x : AV} {cx : Value} {ts : Array TypeId} {k : Array Bool} {args : Array Value} (ht : ts[0]? = some t) (ha : args[0]? = some cx) (hx : VRel P F m x cx) : DefRel P F m (.clr t x) { target := .builtin .clear ts ty k, args := args }
inductive DsRel (P : Program) (F : Nat → Option Obj) (m : Loc) : List ADef → List Deferred → Prop
  | nil : DsRel P F m [] []
  | cons {d : ADef} {c : Deferred} {ds : List ADef} {cs : List Deferred} (h : DefRel P F m d c) (hs : DsRel P F m ds cs) : DsRel P F m (d :: ds) (c :: cs)
theorem DefRel.mono {P : Program} {F : Nat → Option Obj} {m m' : Loc} (hm : Loc.le m m') {d : ADef} {c : Deferred} (h : DefRel P F m d c) : DefRel P F m' d c := by
  cases h with
  | coll h => exact .coll (hm _ _ h)
  | fn h1 h2 => exact .fn (h1.mono hm) (h2.mono hm)
  | clr ht ha hx => exact .clr ht ha (hx.mono hm)
theorem DsRel.mono {P : Program} {F : Nat → Option Obj} {m m' : Loc} (hm : Loc.le m m') {d : List ADef} {c : List Deferred} (h : DsRel P F m d c) : DsRel P F m' d c := by
  induction h with
  | nil => exact .nil
  | cons h _ ih => exact .cons (h.mono hm) ih

structure ARel (P : Program) (F : Nat → Option Obj) (m : Loc) (s : St) (a : Act) : Prop where
  tm : TRel P F m s.tm s.n a.tmps
  ds : DsRel P F m s.ds a.defers
theorem ARel.mono {P : Program} {F : Nat → Option Obj} {m m' : Loc} (hm : Loc.le m m') {s : St} {a : Act} (h : ARel P F m s a) : ARel P F m' s a := ⟨h.tm.mono hm, h.ds.mono hm⟩

/-- The fence in which a frame runs: a function's own, or a round's. -/
def FenRel (m : Loc) : Option Nat → Fence → Prop
  | none, fe => fe = Fence.wide
  | some l, fe => ∃ b z, m l = some (b, z) ∧ fe = Fence.wide.inRound b
theorem FenRel.mono {m m' : Loc} (hm : Loc.le m m') {o : Option Nat} {fe : Fence} (h : FenRel m o fe) : FenRel m' o fe := by
  cases o with
  | none => exact h
  | some l => obtain ⟨b, z, h1, h2⟩ := h; exact ⟨b, z, hm _ _ h1, h2⟩
theorem FenRel.fn {m : Loc} {o : Option Nat} {fe : Fence} (h : FenRel m o fe) (f : FuncId) : fe.fn f := by
  cases o with
  | none => cases h; trivial
  | some l => obtain ⟨_, _, _, rfl⟩ := h; trivial
theorem FenRel.depth {m : Loc} {o : Option Nat} {fe : Fence} (h : FenRel m o fe) : fe.depth = none := by
  cases o with
  | none => cases h; rfl
  | some l => obtain ⟨_, _, _, rfl⟩ := h; rfl

/-- The names that a step may take. -/
def Free (m : Loc) (h h' : Hp) : Prop := ∀ r, h.nx ≤ r → r < h'.nx → m r = none

/-- A call that turns nothing: of values that bear no names, it answers one; what it has made nobody writes. -/
def PureC (P : Program) (F : Nat → Option Obj) (f : FuncId) (args : List AV) (v : AV) : Prop :=
  ∀ (m : Loc) (w : World) (n : Nat) (cargs : Array Value), (∀ b o, Fz F m b o → w.heap[b]? = some o) → LRel P F m args cargs.toList →
    CallsIn Fence.wide n P f cargs w fun e w' => ∃ cv fz, e = .returned cv ∧ SameOut w w' ∧ w.heap.size ≤ w'.heap.size ∧ (∀ b, b < w.heap.size → w'.heap[b]? = w.heap[b]?) ∧
      (∀ b o, fz b = some o → w'.heap[b]? = some o) ∧ (∀ b o, m.fz b = some o → fz b = some o) ∧ (∀ b o, fz b = some o → m.fz b = some o ∨ w.heap.size ≤ b) ∧ VRel P F ⟨fun _ => none, fz⟩ v cv

/-- A call of a function, as its caller hears of it. -/
def Calling (P : Program) (F : Nat → Option Obj) (h h' : Hp) (v : AV) (f : FuncId) (args : List AV) : Prop :=
  ∀ m w n cargs, HRel P F m h w → LRel P F m args cargs.toList → Free m h h' → CallsIn Fence.wide n P f cargs w fun e w' => ∃ cv m', e = .returned cv ∧ Step P F m h h' w w' m' ∧ VRel P F m' v cv
/-- What is asked of the program, once. -/
structure POk (P : Program) (F : Nat → Option Obj) (gl : Nat → AV) (eqT : Knob) : Prop where
  eq : EqOk P eqT
  glob : ∀ (m : Loc) g, VRel P F m (gl g) (.pointer (some ⟨g, 0, none⟩))
  names : ∀ (f : FuncId) (fn : Func), P.funcs[f]? = some fn → fn.body.isSome = true → (fn.name == "runtime.NumGoroutine") = false
  mixed : P.follows .mixedOrders = true
  orc : ∀ f args v, eqT.orc f args = some v → PureC P F f args v
  ext : ∀ f args v, eqT.ext f args = some v → ∀ (m : Loc) (w : World) (cargs : Array Value), LRel P F m args cargs.toList → ∃ cv w', (callFunc f cargs).run P w = .ok (.value cv) w' ∧ w'.heap = w.heap ∧ SameOut w w' ∧ VRel P F m v cv
  prim : ∀ f args h v h', eqT.prim f args h = some (v, h') → HpLe h h' ∧ Calling P F h h' v f args

section
variable {P : Program} {F : Nat → Option Obj} {gl : Nat → AV} {eqT : Knob} {m : Loc}
theorem ev_rel (hP : POk P F gl eqT) {s : St} {a : Act} (h : TRel P F m s.tm s.n a.tmps) (x : Operand) : VRel P F m (s.ev (Ctx.of P gl eqT) x) (a.eval x) := by
  cases x with
  | tmp t =>
    show VRel P F m (tget s.tm t) (a.tmps.getD t Go.undef)
    by_cases ht : t < s.n
    · exact h.at' t ht
    · have ht := Nat.le_of_not_lt ht
      rw [h.out t ht]
      have : a.tmps.getD t Go.undef = .tuple #[] := by
        rw [Array.getD_eq_getD_getElem?, Array.getElem?_eq_none (by rw [h.size]; exact ht)]; rfl
      rw [this]
      exact LRel.tup .nil
  | const v => exact ofV_rel P F m v
  | global g => exact hP.glob m g
  | func f => exact .fn (.func f) rfl (fun i x y h _ => by simp at h) rfl (fun i x y h _ => by simp at h)
theorem allA_rel {C : Ctx} {s : St} {ρ : Operand → Value} (hev : ∀ x, VRel P F m (s.ev C x) (ρ x)) : ∀ (l : List Operand), LRel P F m (allA C s l) (l.map ρ)
  | [] => .nil
  | x :: l => .cons (hev x) (allA_rel hev l)
theorem allA_arr {C : Ctx} {s : St} {ρ : Operand → Value} (hev : ∀ x, VRel P F m (s.ev C x) (ρ x)) (a : Array Operand) : LRel P F m (allA C s a.toList) (a.map ρ).toList := by
  rw [Array.toList_map]; exact allA_rel hev _
theorem tget_set (tm : Tr AV) (d : Nat) (v : AV) (t : Nat) : tget (tm.set d v) t = if d = t then v else tget tm t := by
  unfold tget; rw [Tr.get_set]
  by_cases h : d = t
  · rw [if_pos h, if_pos h]
  · rw [if_neg h, if_neg h]
theorem TRel.put {tm : Tr AV} {n : Nat} {t : Array Value} (h : TRel P F m tm n t) {d : Nat} {v : AV} {cv : Value} (hd : d < n) (hv : VRel P F m v cv) : TRel P F m (tm.set d v) n (t.setIfInBounds d cv) := by
  refine ⟨by simp [h.size], fun i hi => ?_, fun i hi => ?_⟩
  · rw [tget_set]
    by_cases hdi : d = i
    · subst hdi
      rw [if_pos rfl, Array.getD_eq_getD_getElem?, Array.getElem?_setIfInBounds_self_of_lt (by rw [h.size]; exact hi)]
      exact hv
    · rw [if_neg hdi, Array.getD_eq_getD_getElem?, Array.getElem?_setIfInBounds_ne hdi, ← Array.getD_eq_getD_getElem?]
      exact h.at' i hi
  · rw [tget_set, if_neg (by omega)]; exact h.out i hi
theorem putD_rel {s s' : St} {a : Act} {d : Option Nat} {v : AV} {cv : Value} {h : Hp} (hp : putD s d v h = some s') (ha : ARel P F m s a) (hv : VRel P F m v cv) : ARel P F m s' (a.put d cv) ∧ s'.h = h ∧ s'.rd = s.rd ∧ s'.n = s.n ∧ s'.ds = s.ds := by
  unfold putD at hp
  split at hp
  · cases hp; exact ⟨⟨ha.tm, ha.ds⟩, rfl, rfl, rfl, rfl⟩
  · obtain ⟨hd, rfl⟩ := cond_some hp
    exact ⟨⟨ha.tm.put (Nat.le_of_ble_eq_true hd) hv, ha.ds⟩, rfl, rfl, rfl, rfl⟩
theorem yielded_rel {ops : Array Oper} {s : St} {a : Act} (ha : ARel P F m s a) {o : Oper} {b : Bool} (h : wantedA ops.toList s o = some b) : Region.wanted o (yielded ops a.tmps) = b := by
  unfold wantedA at h
  unfold Region.wanted
  split at h
  · rename_i hg; rw [hg]; cases h; rfl
  · rename_i j want hg
    rw [hg]
    dsimp only
    unfold yielded
    split at h
    · rename_i p hp
      have hp' : ops[j]? = some p := by simpa using hp
      rw [hp']
      split at h
      · rename_i d hd
        simp only [Option.bind_some, hd]
        have hv : a.tmps[d]? = none ∨ ∃ cv, a.tmps[d]? = some cv ∧ VRel P F m (tget s.tm d) cv := by
          cases hx : a.tmps[d]? with
          | none => exact .inl rfl
          | some cv =>
            refine .inr ⟨cv, rfl, ?_⟩
            have hlt : d < a.tmps.size := (Array.getElem?_eq_some_iff.1 hx).1
            have := ha.tm.at' d (by rw [← ha.tm.size]; exact hlt)
            rw [Array.getD_eq_getD_getElem?, hx] at this
            exact this
        split at h
        · rename_i t ht
          cases h
          rcases hv with hv | ⟨cv, hv, hr⟩
          · exfalso
            have hge : s.n ≤ d := by
              rw [← ha.tm.size]
              rcases Nat.lt_or_ge d a.tmps.size with h' | h'
              · rw [Array.getElem?_eq_getElem h'] at hv; cases hv
              · exact h'
            rw [ha.tm.out d hge] at ht; cases ht
          · rw [ht] at hr
            obtain rfl := hr.bool_inv
            rw [hv]; cases t <;> cases want <;> rfl
        · cases h
        · rename_i hb hu
          cases h
          rcases hv with hv | ⟨cv, hv, hr⟩
          · rw [hv]; rfl
          · rw [hv]
            cases cv with
            | bool t =>
              exfalso
              cases hx : tget s.tm d <;> rw [hx] at hr hb hu <;> first | exact hu rfl | exact hb _ rfl | (cases hr; done) | (cases hr with | raw h => cases h)
            | _ => rfl
      · rename_i hd
        cases h
        simp only [Option.bind_some, hd, Option.bind_none]
        rfl
    · rename_i hp
      cases h
      have hp' : ops[j]? = none := by simpa using hp
      rw [hp']; rfl
end
end Go.Ax

/- Iterators over strings, map entries, bytes to strings. -/
namespace Go.Ax
section
variable {P : Program} {F : Nat → Option Obj} {gl : Nat → AV} {eqT : Knob} {m : Loc}

theorem cond_some'' {α : Type} {c : Bool} {x : Option α} {y : α} (h : (bif c then x else none) = some y) : c = true ∧ x = some y := by
  cases c with
  | true => exact ⟨rfl, h⟩
  | false => cases h
theorem rangeA_rel {t : TypeId} {x v : AV} {cx : Value} {h h' : Hp} {w : World} (ha : rangeA (Ctx.of P gl eqT) t x h = some (v, h')) (hx : VRel P F m x cx) (hr : HRel P F m h w) (hn : ∀ r, h.nx ≤ r → r < h'.nx → m r = none) :
    ∃ cv w' m', (Instr.range t cx).run P w = .ok cv w' ∧ Step P F m h h' w w' m' ∧ VRel P F m' v cv := by
  unfold rangeA at ha
  split at ha
  · rename_i ti b ht
    have hu := ti_underlying ht
    split at ha
    case h_2 => cases ha
    rename_i hd
    rw [hd] at hu
    cases ha
    obtain ⟨s, rfl, hs⟩ := hx.str_inv
    have hn' := hn h.nx (Nat.le_refl _) (Nat.lt_succ_self _)
    refine ⟨_, _, _, ?_, Step.alloc (w' := { w with heap := w.heap.push (.stringIter s 0) }) hr hn' (z := 0) (ob := .stringIter s 0) rfl ⟨rfl, rfl, rfl⟩ ⟨s, rfl, hs⟩, .ptr (Loc.put_same _ _ _ _)⟩
    simp [Instr.range, run_underlying hu]
  · rename_i ti r ht
    have hu := ti_underlying ht
    split at ha
    case h_2 => cases ha
    rename_i es0 clock hd hg
    rw [hd] at hu
    cases ha
    obtain ⟨b, z, hm, rfl⟩ := hx.map_inv
    obtain ⟨ces, h1, h2, h3⟩ := hr.obj r _ b z hg hm
    have hn' := hn h.nx (Nat.le_refl _) (Nat.lt_succ_self _)
    refine ⟨_, _, _, ?_, Step.alloc (w' := { w with heap := w.heap.push (.mapIter (some b) clock #[] clock) }) hr hn' (z := 0) (ob := .mapIter (some b) clock #[] clock) rfl ⟨rfl, rfl, rfl⟩ ⟨b, z, (by rw [Loc.put_ne _ _ _ (fun e => by subst e; rw [hn'] at hm; cases hm)]; exact hm), rfl⟩, .ptr (Loc.put_same _ _ _ _)⟩
    simp [Instr.range, run_underlying hu, run_getObj h1 rfl]
  · cases ha

theorem filter_rel {seen : List Nat} : ∀ (es : List (AV × AV × Nat)) (ces : List MapEntry), es.length = ces.length → (∀ (i : Nat) (x : AV × AV × Nat) (y : MapEntry), es[i]? = some x → ces[i]? = some y → ERel P F m x y) →
    (leftM seen es).length = (ces.filter fun e => !seen.contains e.born).length ∧ ∀ (i : Nat) (x : AV × AV × Nat) (y : MapEntry), (leftM seen es)[i]? = some x → (ces.filter fun e => !seen.contains e.born)[i]? = some y → ERel P F m x y
  | [], [], _, _ => ⟨rfl, fun i x y hx => by simp [leftM] at hx⟩
  | [], _ :: _, h, _ => by cases h
  | _ :: _, [], h, _ => by cases h
  | e :: es, c :: ces, hl, hc => by
    have h0 := hc 0 _ _ rfl rfl
    obtain ⟨g1, g2⟩ := filter_rel (seen := seen) es ces (by simpa using hl) (fun i x y hx hy => hc (i + 1) x y (by simpa using hx) (by simpa using hy))
    unfold leftM at g1 g2 ⊢
    have hb := h0.born
    rw [List.filter_cons, List.filter_cons, hb]
    by_cases hs : (!seen.contains c.born) = true
    · rw [if_pos hs, if_pos hs]
      refine ⟨by simpa using g1, fun i x y hx hy => ?_⟩
      cases i with
      | zero => simp at hx hy; subst hx hy; exact h0
      | succ i => exact g2 i x y (by simpa using hx) (by simpa using hy)
    · rw [if_neg hs, if_neg hs]
      exact ⟨g1, g2⟩
theorem all_rel {last : Nat} : ∀ (es : List (AV × AV × Nat)) (ces : List MapEntry), es.length = ces.length → (∀ (i : Nat) (x : AV × AV × Nat) (y : MapEntry), es[i]? = some x → ces[i]? = some y → ERel P F m x y) →
    (es.all fun e => Nat.ble last e.2.2) = (ces.all fun e => decide (e.born ≥ last))
  | [], [], _, _ => rfl
  | [], _ :: _, h, _ => by cases h
  | _ :: _, [], h, _ => by cases h
  | e :: es, c :: ces, hl, hc => by
    have h0 := (hc 0 _ _ rfl rfl).born
    rw [List.all_cons, List.all_cons, all_rel es ces (by simpa using hl) (fun i x y hx hy => hc (i + 1) x y (by simpa using hx) (by simpa using hy)), h0]
    congr 1
    by_cases h : last ≤ c.born
    · rw [Nat.ble_eq_true_of_le h]; simp [h]
    · rw [decide_eq_false (by omega)]
      cases hb : Nat.ble last c.born with
      | false => rfl
      | true => exact absurd (Nat.le_of_ble_eq_true hb) h

theorem nextM_rel {x v : AV} {cx : Value} {ty : TypeId} {h h' : Hp} {w : World} (ha : nextM x h = some (v, h')) (hx : VRel P F m x cx) (hr : HRel P F m h w) :
    ∃ cv w', (Instr.next cx false ty).run P w = .ok cv w' ∧ Step P F m h h' w w' m ∧ VRel P F m v cv := by
  unfold nextM at ha
  split at ha
  case h_2 => cases ha
  rename_i r
  split at ha
  case h_2 => cases ha
  rename_i q since seen last hg
  split at ha
  case h_2 => cases ha
  rename_i es clock hgq
  obtain ⟨bl, z, hm, rfl⟩ := hx.ptr_inv
  obtain ⟨b, y, hmq, h1⟩ := hr.obj r _ bl z hg hm
  obtain ⟨ces, k1, k2, k3⟩ := hr.obj q _ b y hgq hmq
  have k2' : es.length = ces.toList.length := by simpa using k2
  have k3' : ∀ (i : Nat) (x : AV × AV × Nat) (y : MapEntry), es[i]? = some x → ces.toList[i]? = some y → ERel P F m x y := fun i x y hx hy => k3 i x y hx (by simpa using hy)
  have hem : es.isEmpty = ces.isEmpty := by
    rw [Bool.eq_iff_iff, List.isEmpty_iff_length_eq_zero, Array.isEmpty_iff_size_eq_zero, k2]
  have hall : (es.all fun e => Nat.ble last e.2.2) = (ces.all fun e => decide (e.born ≥ last)) := by
    rw [all_rel es ces.toList k2' k3', Array.all_toList]
  have hse : seen.toArray.isEmpty = seen.isEmpty := by cases seen <;> rfl
  cases hguard : (!seen.isEmpty && (!es.isEmpty && es.all fun e => Nat.ble last e.2.2)) with
  | true => rw [hguard] at ha; cases ha
  | false =>
  rw [hguard, cond_false] at ha
  have hg2 : (!seen.toArray.isEmpty && !ces.isEmpty && ces.all fun e => decide (e.born ≥ last)) = false := by
    rw [hse, ← hem, ← hall, Bool.and_assoc]; exact hguard
  obtain ⟨f1, f2⟩ := filter_rel (seen := seen) es ces.toList k2' k3'
  have hfil : (ces.filter fun e => !seen.toArray.contains e.born).toList = ces.toList.filter fun e => !seen.contains e.born := by
    simp
  split at ha
  · rename_i hl
    cases ha
    have he : (ces.filter fun e => !seen.toArray.contains e.born) = #[] := by
      apply Array.ext'
      rw [hfil]
      rw [hl] at f1
      exact List.eq_nil_of_length_eq_zero f1.symm
    refine ⟨.tuple #[.bool false], w, ?_, Step.refl hr rfl (SameOut.refl w), LRel.tup (.cons (.bool false) .nil)⟩
    simp only [Instr.next, Sem.run_bind, run_getObj h1 rfl, Result.andThen_ok, run_getObj k1 rfl, hg2, he]
    simp [Question.forced]
  · rename_i k v0 b0 hl
    obtain ⟨hlt, he⟩ := cond_some ha
    cases he
    have hlt := Nat.le_of_ble_eq_true hlt
    rw [hl] at f1 f2
    obtain ⟨e, he⟩ : ∃ e, (ces.toList.filter fun e => !seen.contains e.born) = [e] := by
      exact List.length_eq_one_iff.1 f1.symm
    have her := f2 0 _ e rfl (by rw [he]; rfl)
    have hea : (ces.filter fun e => !seen.toArray.contains e.born) = #[e] := by
      apply Array.ext'
      rw [hfil, he]
    have hborn : b0 = e.born := her.born
    have hlt' : e.born < since := by rw [← hborn]; exact hlt
    have hnge : ¬ (since ≤ e.born) := by omega
    refine ⟨.tuple #[.bool true, e.key, e.val], _, ?_, Step.obj hr hg rfl hm (ob := .mapIter (some b) since (seen.toArray.push e.born) clock) ⟨b, y, hmq, by rw [hborn]; simp⟩, LRel.tup (.cons (.bool true) (.cons her.key (.cons her.val .nil)))⟩
    simp only [Instr.next, Sem.run_bind, run_getObj h1 rfl, Result.andThen_ok, run_getObj k1 rfl, hg2, hea]
    simp [Question.forced, hlt', hnge, run_setObj h1 rfl]
  · cases ha

theorem nextA_rel {x v : AV} {cx : Value} {ty : TypeId} {h h' : Hp} {w : World} (ha : nextA x h = some (v, h')) (hx : VRel P F m x cx) (hr : HRel P F m h w) :
    ∃ cv w', (Instr.next cx true ty).run P w = .ok cv w' ∧ Step P F m h h' w w' m ∧ VRel P F m v cv := by
  unfold nextA at ha
  split at ha
  case h_2 => cases ha
  rename_i r
  split at ha
  case h_2 => cases ha
  rename_i b pos hg
  obtain ⟨bl, z, hm, rfl⟩ := hx.ptr_inv
  obtain ⟨s, h1, h2⟩ := hr.obj r _ bl z hg hm
  have hsz : s.size = b.length := by rw [← h2]; simp
  split at ha
  · rename_i hp
    cases ha
    have hge : ¬ pos < s.size := by have := List.getElem?_eq_none_iff.1 hp; omega
    refine ⟨.tuple #[.bool false], w, ?_, Step.refl hr rfl (SameOut.refl w), LRel.tup (.cons (.bool false) .nil)⟩
    simp [Instr.next, run_getObj h1 rfl, hge]
  · rename_i c hp
    obtain ⟨hc, he⟩ := cond_some ha
    cases he
    have hc := Nat.le_of_ble_eq_true hc
    have hlt : pos < s.size := by have := (List.getElem?_eq_some_iff.1 hp).1; omega
    have hget : (s.get! pos).toNat = c := by
      have h3 : (s.data.toList.map UInt8.toNat)[pos]? = some c := by rw [h2]; exact hp
      rw [List.getElem?_map] at h3
      have h4 : s.data.toList[pos]? = some (s.get! pos) := by
        rw [Array.getElem?_toList]
        have hlt' : pos < s.data.size := hlt
        show s.data[pos]? = some s.data[pos]!
        rw [Array.getElem?_eq_getElem hlt', getElem!_pos s.data pos hlt']
      rw [h4] at h3
      exact Option.some.inj h3
    have hdec : Utf8.decode s pos = (c, 1) := by
      unfold Utf8.decode
      simp only [Nat.add_zero, hget]
      rw [if_pos (show c < 128 by omega)]
    refine ⟨.tuple #[.bool true, .int .i64 (.ofNat pos), .int .i32 (.ofNat c)], _, ?_, Step.obj hr hg rfl hm (ob := .stringIter s (pos + 1)) ⟨s, rfl, h2⟩, LRel.tup (.cons (.bool true) (.cons (.int _ _) (.cons (.int _ _) .nil)))⟩
    simp only [Instr.next, Sem.run_bind, run_getObj h1 rfl, Result.andThen_ok, if_pos hlt, hdec, run_setObj h1 rfl]
    rfl

theorem findB_rel {n : Nat} : ∀ (es : List (AV × AV × Nat)) (ces : List MapEntry) (k v : AV), findB n es = some (k, v) → es.length = ces.length → (∀ (i : Nat) (x : AV × AV × Nat) (y : MapEntry), es[i]? = some x → ces[i]? = some y → ERel P F m x y) →
    ∃ e, ces.find? (fun e => e.born == n) = some e ∧ VRel P F m k e.key ∧ VRel P F m v e.val
  | [], ces, k, v, h, _, _ => by cases h
  | (q, u, b) :: es, ces, k, v, h, hl, hc => by
    cases ces with
    | nil => cases hl
    | cons e ces =>
    have he := hc 0 _ _ rfl rfl
    have hb : b = e.born := he.born
    unfold findB at h
    rw [List.find?_cons]
    by_cases hbn : b = n
    · subst hbn
      rw [Nat.beq_refl, cond_true] at h
      cases h
      rw [show (e.born == b) = true by rw [← hb]; simp]
      exact ⟨e, rfl, he.key, he.val⟩
    · have hne : Nat.beq b n = false := by
        cases hx : Nat.beq b n with
        | false => rfl
        | true => exact absurd (Nat.eq_of_beq_eq_true hx) hbn
      rw [hne, cond_false] at h
      rw [show (e.born == n) = false by rw [← hb]; simp [hbn]]
      exact findB_rel es ces k v h (by simpa using hl) (fun i x y hx hy => hc (i + 1) x y (by simpa using hx) (by simpa using hy))
theorem entryM_rel {x v : AV} {cx : Value} {h : Hp} {w : World} (ha : entryM x h = some v) (hx : VRel P F m x cx) (hr : HRel P F m h w) : ∃ cv, (Instr.entry cx).run P w = .ok cv w ∧ VRel P F m v cv := by
  unfold entryM at ha
  split at ha
  case h_2 => cases ha
  rename_i r
  split at ha
  case h_2 => cases ha
  rename_i q since seen last hg
  split at ha
  case h_2 => cases ha
  rename_i es clock b0 hgq hlast
  have hcl : clock = last := by
    cases hb : Nat.beq clock last with
    | true => exact Nat.eq_of_beq_eq_true hb
    | false => rw [hb] at ha; cases ha
  rw [hcl, Nat.beq_refl, cond_true] at ha
  cases hf : findB b0 es with
  | none => rw [hf] at ha; cases ha
  | some ku =>
  obtain ⟨k, u⟩ := ku
  rw [hf] at ha
  cases ha
  obtain ⟨bl, z, hm, rfl⟩ := hx.ptr_inv
  obtain ⟨b, y, hmq, h1⟩ := hr.obj r _ bl z hg hm
  obtain ⟨ces, k1, k2, k3⟩ := hr.obj q _ b y hgq hmq
  obtain ⟨e, g1, g2, g3⟩ := findB_rel es ces.toList k u hf (by simpa using k2) (fun i x y hx hy => k3 i x y hx (by simpa using hy))
  have g1' : ces.find? (fun e => e.born == b0) = some e := by rw [← Array.find?_toList]; exact g1
  have hb : seen.toArray.back? = some b0 := by rw [List.back?_toArray]; exact hlast
  refine ⟨.tuple #[e.key, e.val], ?_, LRel.tup (.cons g2 (.cons g3 .nil))⟩
  simp only [Instr.entry, Sem.run_bind, run_getObj h1 rfl, Result.andThen_ok, hb, run_getObj k1 rfl, hcl]
  simp [g1']
theorem mapEntryA_rel (hE : EqOk P eqT) {t : TypeId} {x k v : AV} {cx ck : Value} {h h' : Hp} {w : World} (hp : mapEntryA (Ctx.of P gl eqT) t x k h = some (v, h')) (hx : VRel P F m x cx) (hk : VRel P F m k ck) (hr : HRel P F m h w) :
    ∃ cv w', (Instr.mapEntry t cx ck).run P w = .ok cv w' ∧ Step P F m h h' w w' m ∧ VRel P F m v cv := by
  unfold mapEntryA at hp
  split at hp
  case h_2 => cases hp
  rename_i kt e size isAgg zero zeroOk bytes comparable zv r ht
  have hu := ti_underlying ht
  dsimp only at hu
  split at hp
  case h_2 => cases hp
  rename_i kd y es clock hkd hy hg
  obtain ⟨ho, hp⟩ := cond_some' hp
  have hck := fun b => checkKey_rel hk ho b w
  obtain ⟨b, z, hm, rfl⟩ := hx.map_inv
  obtain ⟨ces, h1, h2, h3⟩ := hr.obj r _ b z hg hm
  have h2' : es.length = ces.toList.length := by simpa using h2
  have h3' : ∀ (i : Nat) (x : AV × AV × Nat) (y : MapEntry), es[i]? = some x → ces.toList[i]? = some y → ERel P F m x y := fun i x y hx hy => h3 i x y hx (by simpa using hy)
  split at hp
  · rename_i j v0 b0 hf
    obtain ⟨e', g2, g3, g4, g5, g6⟩ := findKey_rel hE hk ho hf h2' h3' w
    cases hp
    have g2' : ces[j]? = some e' := by simpa using g2
    have hkeep : (Instr.keyThatStays (((ces[j]?).map (·.key)).getD ck) ck).run P w = .ok ck w := by
      rw [g2']; exact g6
    refine ⟨.tuple #[e'.val, goInt e'.born], _, ?_, Step.obj hr hg rfl hm (ob := .map (ces.modify j fun e => { e with key := ck }) clock) ⟨_, rfl, by simp [setAt, h2], fun i x y hx hy => ?_⟩, LRel.tup (.cons g4 (.cons (by rw [g5]; exact .int _ _) .nil))⟩
    · simp only [Instr.mapEntry, Sem.run_bind, run_underlying hu, Result.andThen_ok, run_getObj h1 rfl, hck, g3, Sem.run_pure]
      rw [hkeep]
      simp only [Result.andThen_ok, run_setObj h1 rfl, g2']
      rfl
    · unfold setAt at hx
      rw [List.getElem?_set] at hx
      rw [Array.getElem?_modify] at hy
      by_cases hij : j = i
      · subst hij
        have hlt : j < es.length := by rw [h2']; exact (List.getElem?_eq_some_iff.1 g2).1
        rw [if_pos rfl, if_pos hlt] at hx
        rw [if_pos rfl, g2'] at hy
        cases hx; cases hy
        exact ⟨hk, g4, g5⟩
      · rw [if_neg hij] at hx
        rw [if_neg hij] at hy
        exact h3 i x y hx hy
  · rename_i hf
    have g3 := findKey_rel hE hk ho hf h2' h3' w
    dsimp only at g3
    obtain ⟨hz, he⟩ := cond_some hp
    cases he
    obtain ⟨zv', hzr, hzl⟩ := run_zv_ti (P := P) (F := F) (m := m) hy hz w
    refine ⟨.tuple #[zv', goInt clock], _, ?_, Step.obj hr hg rfl hm (ob := .map (ces.push { key := ck, val := zv', born := clock }) (clock + 1)) ⟨_, rfl, by simp [h2], fun i x y hx hy => ?_⟩, LRel.tup (.cons hzl (.cons (.int _ _) .nil))⟩
    · simp only [Instr.mapEntry, Sem.run_bind, run_underlying hu, Result.andThen_ok, run_getObj h1 rfl, hck, g3, Sem.run_pure, hzr, run_setObj h1 rfl]
    · by_cases hi : i < es.length
      · rw [List.getElem?_append_left hi] at hx
        rw [Array.getElem?_push, if_neg (by omega)] at hy
        exact h3 i x y hx hy
      · rw [List.getElem?_append_right (by omega)] at hx
        have hi' : i = es.length := by
          have := (List.getElem?_eq_some_iff.1 hx).1
          simp at this; omega
        rw [Array.getElem?_push, if_pos (by omega)] at hy
        subst hi'
        simp at hx
        cases hy; subst hx
        exact ⟨hk, hzl, rfl⟩
  · cases hp

theorem bornAt_rel {n : Nat} : ∀ (es : List (AV × AV × Nat)) (ces : List MapEntry) (i j : Nat) (k : AV), bornAt n es i = some (j, k) → es.length = ces.length →
    (∀ (i : Nat) (x : AV × AV × Nat) (y : MapEntry), es[i]? = some x → ces[i]? = some y → ERel P F m x y) →
    i ≤ j ∧ ces.findIdx? (fun e => (e.born : Int) == (n : Int)) = some (j - i) ∧ ∃ v e, es[j - i]? = some (k, v, n) ∧ ces[j - i]? = some e
  | [], ces, i, j, k, h, _, _ => by cases h
  | (q, v, b) :: es, ces, i, j, k, h, hl, hc => by
    cases ces with
    | nil => cases hl
    | cons e ces =>
    have he := hc 0 _ _ rfl rfl
    have hb : b = e.born := he.born
    unfold bornAt at h
    by_cases hbn : b = n
    · subst hbn
      rw [Nat.beq_refl, cond_true] at h
      cases h
      refine ⟨Nat.le_refl _, ?_, v, e, ?_, ?_⟩
      · rw [Nat.sub_self, List.findIdx?_cons, ← hb]; simp
      · rw [Nat.sub_self]; rfl
      · rw [Nat.sub_self]; rfl
    · have hne : Nat.beq b n = false := by
        cases hx : Nat.beq b n with
        | false => rfl
        | true => exact absurd (Nat.eq_of_beq_eq_true hx) hbn
      rw [hne, cond_false] at h
      obtain ⟨g1, g2, v', e', g3, g4⟩ := bornAt_rel es ces (i + 1) j k h (by simpa using hl) (fun i x y hx hy => hc (i + 1) x y (by simpa using hx) (by simpa using hy))
      have hj : j - i = (j - (i + 1)) + 1 := by omega
      refine ⟨by omega, ?_, v', e', ?_, ?_⟩
      · rw [List.findIdx?_cons]
        have : ((e.born : Int) == (n : Int)) = false := by
          rw [← hb]; simp; omega
        rw [this]
        simp only [Bool.false_eq_true, if_false]
        rw [g2, hj]; rfl
      · rw [hj]; exact g3
      · rw [hj]; exact g4

theorem entryStoreA_rel {t : TypeId} {x st v : AV} {cx cst cv : Value} {h h' : Hp} {w : World} (hp : entryStoreA x st v h = some h') (hx : VRel P F m x cx) (hst : VRel P F m st cst) (hv : VRel P F m v cv) (hr : HRel P F m h w) :
    ∃ w', (Instr.entryStore t cx cst cv).run P w = .ok () w' ∧ Step P F m h h' w w' m := by
  unfold entryStoreA at hp
  split at hp
  case h_2 => cases hp
  rename_i r kd n
  split at hp
  case h_2 => cases hp
  rename_i es clock hg
  split at hp
  case h_2 => cases hp
  rename_i j k hb
  cases hp
  obtain ⟨b, z, hm, rfl⟩ := hx.map_inv
  obtain rfl := hst.int_inv
  obtain ⟨ces, h1, h2, h3⟩ := hr.obj r _ b z hg hm
  have h2' : es.length = ces.toList.length := by simpa using h2
  have h3' : ∀ (i : Nat) (x : AV × AV × Nat) (y : MapEntry), es[i]? = some x → ces.toList[i]? = some y → ERel P F m x y := fun i x y hx hy => h3 i x y hx (by simpa using hy)
  obtain ⟨_, g2, v', e', g3, g4⟩ := bornAt_rel es ces.toList 0 j k hb h2' h3'
  rw [Nat.sub_zero] at g2 g3 g4
  have g4' : ces[j]? = some e' := by simpa using g4
  have g2' : ces.findIdx? (fun e => (e.born : Int) == (Int.ofNat n)) = some j := by
    cases ces with
    | mk l => rw [List.findIdx?_toArray]; exact g2
  refine ⟨_, ?_, Step.obj hr hg rfl hm (ob := .map (ces.modify j fun e => { e with val := cv }) clock) ⟨_, rfl, by simp [setAt, h2], fun i x y hx hy => ?_⟩⟩
  · simp only [Instr.entryStore, Sem.run_bind, run_getObj h1 rfl, Result.andThen_ok, asInt, asIntOf, Sem.run_pure]
    rw [g2']
    simp only [run_setObj h1 rfl]
  · unfold setAt at hx
    rw [List.getElem?_set] at hx
    rw [Array.getElem?_modify] at hy
    by_cases hij : j = i
    · subst hij
      have hlt : j < es.length := (List.getElem?_eq_some_iff.1 g3).1
      rw [if_pos rfl, if_pos hlt] at hx
      rw [if_pos rfl, g4'] at hy
      cases hx; cases hy
      have := h3' _ _ _ g3 g4
      exact ⟨this.key, hv, this.born⟩
    · rw [if_neg hij] at hx
      rw [if_neg hij] at hy
      exact h3 i x y hx hy

theorem bytesOf_rel : ∀ (new : List AV) (l : List Nat) (cs : List Value), bytesOf new = some l → LRel P F m new cs → cs = l.map (fun (n : Nat) => Value.int .u8 (.ofNat n)) ∧ ∀ n ∈ l, n < 256
  | [], l, cs, h, hc => by cases h; cases hc.cases_nil; exact ⟨rfl, nofun⟩
  | v :: new, l, cs, h, hc => by
    obtain ⟨c, cs, rfl, h1, h2⟩ := hc.cases_cons
    unfold bytesOf at h
    split at h
    · rename_i h0; cases h0
    · rename_i n l0 h0
      cases h0
      obtain ⟨hn, h⟩ := cond_some' h
      split at h
      case h_2 => cases h
      rename_i k hk
      cases h
      obtain ⟨g1, g2⟩ := bytesOf_rel new k cs hk h2
      obtain rfl := h1.int_inv
      refine ⟨by rw [g1]; rfl, fun q hq => ?_⟩
      cases hq with
      | head => exact Nat.le_of_ble_eq_true hn
      | tail _ hq => exact g2 q hq
    · cases h

theorem convS_rel {a b : TypeId} {x v : AV} {cx : Value} {h : Hp} {w : World} (hi : isSlice x = true) (hp : isPtrA x = false) (hc : convS (Ctx.of P gl eqT) a b x h = some v) (hx : VRel P F m x cx) (hr : HRel P F m h w) : ∃ cv, (convert a b cx).run P w = .ok cv w ∧ VRel P F m v cv := by
  unfold convS at hc
  split at hc
  case h_2 => cases hc
  rename_i p q k hp hq hk
  have h1 := ti_underlying hp
  have h2 := ti_underlying hq
  split at hc
  case h_2 => cases hc
  rename_i e hd1 hd2
  rw [hd1] at h1
  rw [hd2] at h2
  split at hc
  case h_2 => cases hc
  rename_i y hy
  have h3 := ti_underlying hy
  split at hc
  case h_2 => cases hc
  rename_i cs hd3 hs
  rw [hd3] at h3
  split at hc
  case h_2 => cases hc
  rename_i l hl
  cases hc
  obtain ⟨arr, g1, g2⟩ := firstCells_rel hs hx hr rfl
  obtain ⟨g3, g4⟩ := bytesOf_rel cs l arr.toList hl g2
  have hsl : ∃ ad ccap, cx = .slice ad k ccap ∧ (ad = none → k = 0) := by
    cases x <;> cases hi <;> cases hp
    · cases hk; exact ⟨_, _, hx.nilsl_inv, fun _ => rfl⟩
    · cases hk
      obtain ⟨b, z, ccap, _, rfl, _⟩ := hx.sl_inv
      exact ⟨_, _, rfl, nofun⟩
    · rename_i xs
      cases hk
      obtain ⟨ad, cap, rfl, _, hne⟩ := hx.isl_inv
      refine ⟨_, _, rfl, fun hn => ?_⟩
      cases xs with
      | nil => rfl
      | cons _ _ => obtain ⟨_, _, _, _, _, _, _, he, _⟩ := hne (by simp); rw [hn] at he; cases he
  obtain ⟨ad, ccap, rfl, hz⟩ := hsl
  rw [run_convert_bytes_string w a b e ad k ccap h1 h3 h2]
  cases ad with
  | none =>
    have hlk : l = [] := by
      have : arr = #[] := by
        have h := hz rfl; subst h
        simp [Builtin.firstCells] at g1; exact g1
      subst this
      cases l with
      | nil => rfl
      | cons _ _ => cases g3
    subst hlk
    exact ⟨.string .empty, rfl, VRel.str ByteArray.empty⟩
  | some ad =>
    have hload : (loadCells ad k).run P w = .ok ((l.map (fun (n : Nat) => (Int.ofNat n))).map (Value.int .u8)).toArray w := by
      have h := g1
      simp only [Builtin.firstCells, Nat.mul_one] at h
      rw [h]
      congr 1
      apply Array.ext'
      rw [g3]; simp
    refine ⟨_, run_bytesToString w ad k ccap _ hload, ?_⟩
    rw [foldl_push_bytes]
    have hb : ∀ l : List Nat, (∀ n ∈ l, n < 256) → l.map (fun n => UInt8.toNat (UInt8.ofNat n)) = l := fun l hl => by
      induction l with
      | nil => rfl
      | cons n l ih =>
        rw [List.map_cons, ih fun q hq => hl q (List.mem_cons_of_mem _ hq)]
        congr 1
        have := hl n (List.mem_cons_self ..)
        simp; omega
    have hbl := hb l g4
    have hstr : ∀ (s : ByteArray), s.data.toList.map UInt8.toNat = l → VRel P F m (.str l) (.string s) := fun s hs => by rw [← hs]; exact .str s
    refine hstr _ ?_
    have he : (ByteArray.empty.data ++ ((l.map (fun (n : Nat) => (Int.ofNat n))).map fun n => UInt8.ofNat n.toNat).toArray).toList = l.map fun n => UInt8.ofNat n := by
      rw [Array.toList_append]
      show [] ++ _ = _
      simp [List.map_map, Function.comp_def]
    show List.map UInt8.toNat (ByteArray.empty.data ++ _).toList = l
    rw [he, List.map_map]
    exact hbl

section le
variable {C : Ctx} {h h' : Hp}
theorem rangeA_le {t : TypeId} {x v : AV} (ha : rangeA C t x h = some (v, h')) : HpLe h h' := by
  unfold rangeA at ha
  split at ha
  · split at ha
    · cases ha; exact .new _ _
    · cases ha
  · split at ha
    · cases ha; exact .new _ _
    · cases ha
  · cases ha
theorem cond_no {α : Type} {c : Bool} {x : Option α} {y : α} (h : (bif c then none else x) = some y) : x = some y := by
  cases c with
  | true => cases h
  | false => exact h
theorem nextM_le {x v : AV} (ha : nextM x h = some (v, h')) : HpLe h h' := by
  unfold nextM at ha
  split at ha
  case h_2 => cases ha
  split at ha
  case h_2 => cases ha
  rename_i hg
  split at ha
  case h_2 => cases ha
  have ha := cond_no ha
  split at ha
  · cases ha; exact .refl _
  · obtain ⟨_, he⟩ := cond_some ha; cases he; exact .put hg _
  · cases ha
theorem nextA_le {x v : AV} (ha : nextA x h = some (v, h')) : HpLe h h' := by
  unfold nextA at ha
  split at ha
  · split at ha
    · rename_i hg
      split at ha
      · cases ha; exact .refl _
      · obtain ⟨_, he⟩ := cond_some ha; cases he; exact .put hg _
    · cases ha
  · cases ha
theorem mapEntryA_le {t : TypeId} {x k v : AV} (ha : mapEntryA C t x k h = some (v, h')) : HpLe h h' := by
  unfold mapEntryA at ha
  split at ha
  · split at ha
    · rename_i hg
      obtain ⟨_, ha⟩ := cond_some' ha
      split at ha
      · cases ha; exact .put hg _
      · obtain ⟨_, he⟩ := cond_some ha; cases he; exact .put hg _
      · cases ha
    · cases ha
  · cases ha
theorem entryStoreA_le {x st v : AV} (ha : entryStoreA x st v h = some h') : HpLe h h' := by
  unfold entryStoreA at ha
  split at ha
  · split at ha
    · rename_i hg
      split at ha
      · cases ha; exact .put hg _
      · cases ha
    · cases ha
  · cases ha
end le
end
end Go.Ax

/- Pointers turned into unsafe.Pointer and back, cells cleared, strings made of a Builder's bytes. -/
namespace Go.Ax
section
variable {P : Program} {F : Nat → Option Obj} {gl : Nat → AV} {eqT : Knob} {m : Loc}

theorem run_shapeOf {w : World} {b : Nat} {arr : Array Value} {e : TypeId} {fz : Nat × Nat} (h : w.heap[b]? = some (.cells arr e fz)) : (shape b).run P w = .ok (some (e, arr.size)) w := by
  simp [shape, Sem.run, World.shape?, h]
theorem run_viewAt {w : World} {b : Nat} {arr : Array Value} {e : TypeId} {fz : Nat × Nat} (h : w.heap[b]? = some (.cells arr e fz)) : (viewAt b).run P w = .ok none w := by
  unfold viewAt
  simp [run_shapeOf h]
theorem run_seenAt {w : World} {a : Addr} {arr : Array Value} {e : TypeId} {fz : Nat × Nat} (h : w.heap[a.block]? = some (.cells arr e fz)) : (Conv.seenAt a).run P w = .ok a w := by
  unfold Conv.seenAt
  rw [Sem.run_bind, run_viewAt h]
  rfl
theorem fits_self (p : Program) (u : TypeId) : sameLayout p p.depth u u = true := by
  show sameLayout p (_ + 1) u u = true
  unfold sameLayout
  simp
theorem rowAt_here (p : Program) (fits : TypeId → Bool) (d : Nat) (e : TypeId) (count off n : Nat) (hs : p.cellsOf e ≠ 0) (hr : off % p.cellsOf e = 0) (hc : off / p.cellsOf e + n ≤ count) (hf : fits e = true) : rowAt p fits (d + 1) e count off n = true := by
  unfold rowAt
  rw [if_neg hs]
  simp [hr, hc, hf]
theorem run_variablesAt {w : World} {a : Addr} {arr : Array Value} {u : TypeId} {fz : Nat × Nat} {n : Nat} (h : w.heap[a.block]? = some (.cells arr u fz)) (hs : P.cellsOf u ≠ 0) (hr : a.off % P.cellsOf u = 0) (hc : a.off / P.cellsOf u + n ≤ arr.size / P.cellsOf u) :
    (variablesAt a u n).run P w = .ok true w := by
  unfold variablesAt
  have h1 : rowAt P (sameLayout P P.depth · u) P.depth u (arr.size / P.cellsOf u) a.off n = true := rowAt_here P _ (2 * (P.types.size + Made.depth) + 1) u _ _ _ hs hr hc (fits_self P u)
  have h2 : liesAt P P.depth u (arr.size / P.cellsOf u) a.off u n = true := by
    show liesAt P (_ + 1) u _ _ u n = true
    unfold liesAt
    rw [h1]; rfl
  simp only [Sem.run_bind, program, Sem.run, Result.andThen_ok, run_shapeOf h, h2, Sem.run_pure]
theorem cellsOf_ti2 {t : TypeId} {x : TI} (h : (Ctx.of P gl eqT).ti t = some x) : P.cellsOf t = x.size := by
  obtain ⟨i, hi, e, _⟩ := ti_info h
  simp [Program.cellsOf, hi, e]

theorem convP_rel {a b : TypeId} {x v : AV} {cx : Value} {h : Hp} {w : World} (hc : convP (Ctx.of P gl eqT) a b x h = some v) (hx : VRel P F m x cx) (hr : HRel P F m h w) : ∃ cv, (convert a b cx).run P w = .ok cv w ∧ VRel P F m v cv := by
  unfold convP at hc
  split at hc
  case h_2 => cases hc
  rename_i p q r o hp hq
  have h1 := ti_underlying hp
  have h2 := ti_underlying hq
  obtain ⟨bl, z, hm, rfl⟩ := hx.ptr_inv
  split at hc
  · rename_i t e cs hd1 hd2 hg
    rw [hd1] at h1
    rw [hd2] at h2
    split at hc
    case h_2 => cases hc
    rename_i y hy
    obtain ⟨hb, he⟩ := cond_some hc
    cases he
    obtain ⟨b1, b2⟩ := and_bool hb
    have b1 : o < cs.length := Nat.le_of_ble_eq_true b1
    have hsz : y.size ≠ 0 := fun e => by rw [e] at b2; cases b2
    obtain ⟨arr, g1, g2, g3, _⟩ := hr.obj r _ bl z hg hm
    refine ⟨.pointer (some ⟨bl, o, none⟩), ?_, .ptr hm⟩
    have hcells : (cellsIn bl).run P w = .ok (some arr.size) w := by
      unfold cellsIn
      simp [run_shapeOf g1]
    have hno : ¬ (o ≥ arr.size) := by omega
    simp only [convert, Sem.run_bind, run_underlying h1, run_underlying h2, Result.andThen_ok, Conv.unsafePointer, run_seenAt (a := ⟨bl, o, none⟩) g1, hcells, run_size_ti hy]
    simp [hsz, hno]
  · rename_i u e cs hd1 hd2 hg
    rw [hd1] at h1
    rw [hd2] at h2
    obtain ⟨heo, hc⟩ := cond_some' hc
    obtain ⟨heu, ho⟩ := and_bool heo
    obtain rfl := Nat.eq_of_beq_eq_true heu
    obtain rfl := Nat.eq_of_beq_eq_true ho
    split at hc
    case h_2 => cases hc
    rename_i y hy
    obtain ⟨hb, he⟩ := cond_some hc
    cases he
    obtain ⟨b1, b2⟩ := and_bool hb
    have b1 := Nat.le_of_ble_eq_true b1
    have hsz : y.size ≠ 0 := fun e => by rw [e] at b2; cases b2
    obtain ⟨arr, g1, g2, g3, _⟩ := hr.obj r _ bl z hg hm
    refine ⟨.pointer (some ⟨bl, 0, none⟩), ?_, .ptr hm⟩
    have hco := cellsOf_ti2 hy
    have hva : (variablesAt ⟨bl, 0, none⟩ e 1).run P w = .ok true w := run_variablesAt (a := ⟨bl, 0, none⟩) g1 (by rw [hco]; exact hsz) (Nat.zero_mod _) (by
      rw [Nat.zero_div, hco, Nat.zero_add]
      exact (Nat.one_le_div_iff (by omega)).2 (by omega))
    simp only [convert, Sem.run_bind, run_underlying h1, run_underlying h2, Result.andThen_ok, Conv.unsafePointer, run_seenAt (a := ⟨bl, 0, none⟩) g1, run_size_ti hy, hva]
    simp
  · cases hc

theorem convB_rel {a b : TypeId} {x v : AV} {cx : Value} {h : Hp} {w : World} (hi : isSlice x = true) (hc : convB (Ctx.of P gl eqT) a b x h = some v) (hx : VRel P F m x cx) (hr : HRel P F m h w) : ∃ cv, (convert a b cx).run P w = .ok cv w ∧ VRel P F m v cv := by
  unfold convB at hc
  cases hp : isPtrA x with
  | true => rw [hp] at hc; exact convP_rel hc hx hr
  | false => rw [hp] at hc; exact convS_rel hi hp hc hx hr
theorem clearA_rel {ts : Array TypeId} {t ty : TypeId} {x : AV} {cx : Value} {args : Array Value} {h h' : Hp} {w : World} (t0 : ts[0]? = some t) (a0 : args[0]? = some cx) (hc : clearA (Ctx.of P gl eqT) t x h = some h') (hx : VRel P F m x cx) (hr : HRel P F m h w) :
    ∃ w', (Builtin.clear_ ts ty args).run P w = .ok (.tuple #[]) w' ∧ Step P F m h h' w w' m := by
  unfold clearA at hc
  split at hc
  case h_3 => cases hc
  case h_2 =>
    rename_i kt e size isAgg zero zeroOk bytes comparable zv hti
    have hu := ti_underlying hti
    dsimp only at hu
    split at hc
    · cases hc
      obtain rfl := hx.nilmap_inv
      exact ⟨w, by simp [Builtin.clear_, t0, a0, run_underlying hu], Step.refl hr rfl (SameOut.refl w)⟩
    · split at hc
      case h_2 => cases hc
      rename_i r _ es clock hg
      cases hc
      obtain ⟨b, z, hm, rfl⟩ := hx.map_inv
      obtain ⟨ces, h1, h2, h3⟩ := hr.obj r _ b z hg hm
      refine ⟨_, ?_, Step.obj hr hg rfl hm (ob := .map #[] clock) ⟨_, rfl, rfl, fun i x y hx hy => by simp at hx⟩⟩
      simp only [Builtin.clear_, t0, a0, Sem.run_bind, run_underlying hu, Result.andThen_ok, run_getObj h1 rfl, run_setObj h1 rfl]
      rfl
    · cases hc
  rename_i e size isAgg zero zeroOk bytes comparable zv hti
  have hu := ti_underlying hti
  dsimp only at hu
  split at hc
  · cases hc
    obtain rfl := hx.nilsl_inv
    exact ⟨w, by simp [Builtin.clear_, t0, a0, run_underlying hu], Step.refl hr rfl (SameOut.refl w)⟩
  · rename_i r o len cap es ex
    obtain ⟨b, z, ccap, hm, rfl, h1, h2, h3, h4⟩ := hx.sl_inv
    cases hz : Nat.beq len 0 with
    | true =>
      rw [hz] at hc; cases hc
      obtain rfl := Nat.eq_of_beq_eq_true hz
      exact ⟨w, by simp [Builtin.clear_, t0, a0, run_underlying hu], Step.refl hr rfl (SameOut.refl w)⟩
    | false =>
      rw [hz, cond_false] at hc
      have hne : len ≠ 0 := fun e => by rw [e] at hz; cases hz
      split at hc
      case h_2 => cases hc
      rename_i y e' cs hy hg
      obtain ⟨hb, he⟩ := cond_some hc
      cases he
      obtain ⟨c1, hb⟩ := and_bool hb
      obtain ⟨c2, hb⟩ := and_bool hb
      obtain ⟨c3, c4⟩ := and_bool hb
      have c3 : o + (zeroCells len y.zero).length ≤ cs.length := Nat.le_of_ble_eq_true c3
      obtain ⟨zv', hzr, hzl, hzs⟩ := run_zero_ti (P := P) (F := F) (m := m) hy c1 w
      have hcells : LRel P F m (zeroCells len y.zero) (Builtin.zeroCells zv'.cells len).toList := zeroCells_rel hzl len _ rfl
      obtain ⟨w', hst, hstep⟩ := Step.cells hr hg hm hcells c4 c3
      refine ⟨w', ?_, hstep⟩
      obtain ⟨k, rfl⟩ : ∃ k, len = k + 1 := ⟨len - 1, by omega⟩
      simp only [Builtin.clear_, t0, a0, Sem.run_bind, run_underlying hu, Result.andThen_ok, hzr, hst]
      rfl
  · cases hc
theorem clearA_le {C : Ctx} {t : TypeId} {x : AV} {h h' : Hp} (hc : clearA C t x h = some h') : HpLe h h' := by
  unfold clearA at hc
  split at hc
  case h_3 => cases hc
  case h_2 =>
    split at hc
    · cases hc; exact .refl _
    · split at hc
      case h_2 => cases hc
      rename_i hg
      cases hc; exact .put hg _
    · cases hc
  split at hc
  · cases hc; exact .refl _
  · rename_i r o len cap es ex
    cases hz : Nat.beq len 0 with
    | true => rw [hz] at hc; cases hc; exact .refl _
    | false =>
      rw [hz, cond_false] at hc
      split at hc
      case h_2 => cases hc
      rename_i y e' cs hy hg
      obtain ⟨_, he⟩ := cond_some hc
      cases he
      exact .put hg _
  · cases hc

end
end Go.Ax

/- Operations that call no function: what the abstract machine says of them. -/
namespace Go.Ax
section
variable {P : Program} {F : Nat → Option Obj} {gl : Nat → AV} {eqT : Knob} {m : Loc}

/-- An operation's own run: it hands a value on, or nothing. -/
def Does (P : Program) (F : Nat → Option Obj) (m : Loc) (h h' : Hp) (w : World) (v : AV) (q : Sem Next) : Prop :=
  ∃ x cv w' m', q.run P w = .ok x w' ∧ (x = Next.value cv ∨ (x = Next.skip ∧ cv = Go.undef)) ∧ Step P F m h h' w w' m' ∧ VRel P F m' v cv
theorem Does.ofV {h h' : Hp} {w : World} {v : AV} {q : Sem Value} (hd : ∃ cv w' m', q.run P w = .ok cv w' ∧ Step P F m h h' w w' m' ∧ VRel P F m' v cv) :
    Does P F m h h' w v (do pure (Next.value (← q))) := by
  obtain ⟨cv, w', m', h1, h2, h3⟩ := hd
  exact ⟨.value cv, cv, w', m', by rw [Sem.run_bind, h1]; rfl, .inl rfl, h2, h3⟩
theorem Does.pureV {h : Hp} {w : World} {v : AV} {q : Sem Value} (hr : HRel P F m h w) (hd : ∃ cv, q.run P w = .ok cv w ∧ VRel P F m v cv) :
    Does P F m h h w v (do pure (Next.value (← q))) := by
  obtain ⟨cv, h1, h3⟩ := hd
  exact .ofV ⟨cv, w, m, h1, Step.refl hr rfl (SameOut.refl w), h3⟩
theorem Does.ofU {h h' : Hp} {w : World} {q : Sem Unit} (hd : ∃ w', q.run P w = .ok () w' ∧ Step P F m h h' w w' m) :
    Does P F m h h' w .undef (do q; pure Next.skip) := by
  obtain ⟨w', h1, h2⟩ := hd
  exact ⟨.skip, Go.undef, w', m, by rw [Sem.run_bind, h1]; rfl, .inr ⟨rfl, rfl⟩, h2, .undef _⟩
theorem Does.wp {h h' : Hp} {w : World} {v : AV} {o : Oper} {a : Act} {fe : Fence} {rd : Option Nat} {n : Nat} {K : Act → World → Prop} {Q : Exit → Act → World → Prop}
    (hd : Does P F m h h' w v (execOp a.eval o)) (hnd : ∀ c, o.op ≠ .defer c) (hf : FenRel m rd fe)
    (hK : ∀ m' cv w', Step P F m h h' w w' m' → VRel P F m' v cv → K (a.put o.dst cv) w') : o.wpIn fe n P a w K Q := by
  obtain ⟨x, cv, w', m', h1, h2, h3, h4⟩ := hd
  refine ⟨fun f _ => hf.fn f, ?_⟩
  rw [Oper.semAt_eq _ _ _ hnd, h1]
  rcases h2 with rfl | ⟨rfl, rfl⟩
  · exact hK _ _ _ h3 h4
  · exact hK _ _ _ h3 h4

theorem ov_some {α : Type} {f : α → OpR} {x : Option α} {r : OpR} (h : ov f x = some r) : ∃ y, x = some y ∧ r = f y := by
  cases x with
  | none => cases h
  | some y => cases h; exact ⟨y, rfl, rfl⟩

theorem min_rel {k : IntKind} {a b : Int} {w : World} {ts : Array TypeId} {ty : TypeId} {args : Array Value} (ha : args.toList = [.int k a, .int k b]) :
    (Builtin.min_ ts ty args).run P w = .ok (.int k (bif ltI b a then b else a)) w := by
  simp only [Builtin.min_, ha, List.foldlM, Builtin.min2, ltI_eq]
  by_cases h : b < a <;> simp [h]
theorem max_rel {k : IntKind} {a b : Int} {w : World} {ts : Array TypeId} {ty : TypeId} {args : Array Value} (ha : args.toList = [.int k a, .int k b]) :
    (Builtin.max_ ts ty args).run P w = .ok (.int k (bif ltI a b then b else a)) w := by
  simp only [Builtin.max_, ha, List.foldlM, Builtin.max2, ltI_eq]
  by_cases h : a < b <;> simp [h]

theorem min3_rel {k : IntKind} {a b c : Int} {w : World} {ts : Array TypeId} {ty : TypeId} {args : Array Value} (ha : args.toList = [.int k a, .int k b, .int k c]) :
    (Builtin.min_ ts ty args).run P w = .ok (.int k (bif ltI c (bif ltI b a then b else a) then c else (bif ltI b a then b else a))) w := by
  simp only [Builtin.min_, ha, List.foldlM, Builtin.min2, ltI_eq]
  by_cases h : b < a
  · by_cases h2 : c < b <;> simp [h, h2]
  · by_cases h2 : c < a <;> simp [h, h2]
theorem builtinA_rel (hE : EqOk P eqT) {b : Builtin} {ts : Array TypeId} {ty : TypeId} {cn : Array Bool} {args : List AV} {cargs : Array Value} {h : Hp} {w : World} {r : OpR}
    (hb : builtinA (Ctx.of P gl eqT) b ts.toList args h = some r) (hx : LRel P F m args cargs.toList) (hr : HRel P F m h w) (hn : ∀ h', (∃ v, r = .val v h') → Free m h h') :
    ∃ v h', r = .val v h' ∧ Does P F m h h' w v (builtin b ts ty cn cargs) := by
  have at' : ∀ {l : List Value} {a : Array Value}, a.toList = l → ∀ i, a[i]? = l[i]? := fun e i => by rw [← e]; exact Array.getElem?_toList.symm
  unfold builtinA at hb
  split at hb
  · rename_i t tl x xl ht
    obtain ⟨cx, cxl, e1, e2, e3⟩ := hx.cases_cons
    have ha := at' e1 0
    have ht0 : ts[0]? = some t := by have := congrArg (·[0]?) ht; simpa using this
    split at hb
    · rename_i v hv
      cases hb
      exact ⟨_, _, rfl, Does.pureV hr (lenOfA_rel ht0 ha hv e2 hr)⟩
    · cases hb
  · rename_i st xt tl s x xl ht
    obtain ⟨cs, csl, e1, e2, e3⟩ := hx.cases_cons
    obtain ⟨cx, cxl, e4, e5, e6⟩ := e3.cases_cons
    subst e4
    have ht0 : ts[0]? = some st := by have := congrArg (·[0]?) ht; simpa using this
    have ht1 : ts[1]? = some xt := by have := congrArg (·[1]?) ht; simpa using this
    split at hb
    · rename_i v h' hv
      cases hb
      exact ⟨_, _, rfl, Does.ofV (appendA_rel ht0 ht1 (at' e1 0) (at' e1 1) hv e2 e5 hr (hn h' ⟨_, rfl⟩))⟩
    · cases hb
  · rename_i dt tl d x xl ht
    obtain ⟨cd, csl, e1, e2, e3⟩ := hx.cases_cons
    obtain ⟨cx, cxl, e4, e5, e6⟩ := e3.cases_cons
    subst e4
    have ht0 : ts[0]? = some dt := by have := congrArg (·[0]?) ht; simpa using this
    split at hb
    · rename_i v h' hv
      cases hb
      obtain ⟨cv, w', g1, g2, g3⟩ := copyA_rel (ty := ty) ht0 (at' e1 0) (at' e1 1) hv e2 e5 hr
      exact ⟨_, _, rfl, Does.ofV ⟨cv, w', m, g1, g2, g3⟩⟩
    · cases hb
  · -- delete
    rename_i t tl x k ht
    obtain ⟨cx, cxl, e1, e2, e3⟩ := hx.cases_cons
    obtain ⟨ck, csl, e4, e5, e6⟩ := e3.cases_cons
    subst e4
    cases e6.cases_nil
    have ht0 : ts[0]? = some t := by have := congrArg (·[0]?) ht; simpa using this
    split at hb
    · rename_i h' hv
      cases hb
      obtain ⟨w', g1, g2⟩ := mapDel_rel (rt := ty) hE hv ht0 e2 e5 hr
      obtain rfl := Array.ext' (ys := #[cx, ck]) e1
      exact ⟨_, _, rfl, Does.ofV ⟨.tuple #[], w', m, g1, g2, LRel.tup .nil⟩⟩
    · cases hb
  · -- complex
    rename_i a b
    cases hb
    obtain ⟨cx, cxl, e1, e2, e3⟩ := hx.cases_cons
    obtain ⟨cy, csl, e4, e5, e6⟩ := e3.cases_cons
    subst e4
    cases e6.cases_nil
    obtain rfl := e2.raw_inv
    obtain rfl := e5.raw_inv
    obtain rfl := Array.ext' (ys := #[Value.float .f64 a, Value.float .f64 b]) e1
    exact ⟨_, _, rfl, Does.pureV hr ⟨.complex .f64 a b, rfl, .raw rfl⟩⟩
  · -- real
    rename_i k a b
    cases hb
    obtain ⟨cx, cxl, e1, e2, e3⟩ := hx.cases_cons
    cases e3.cases_nil
    obtain rfl := e2.raw_inv
    obtain rfl := Array.ext' (ys := #[Value.complex k a b]) e1
    exact ⟨_, _, rfl, Does.pureV hr ⟨.float k a, rfl, .raw rfl⟩⟩
  · -- imag
    rename_i k a b
    cases hb
    obtain ⟨cx, cxl, e1, e2, e3⟩ := hx.cases_cons
    cases e3.cases_nil
    obtain rfl := e2.raw_inv
    obtain rfl := Array.ext' (ys := #[Value.complex k a b]) e1
    exact ⟨_, _, rfl, Does.pureV hr ⟨.float k b, rfl, .raw rfl⟩⟩
  · -- clear
    rename_i t tl x xl ht
    obtain ⟨cx, cxl, e1, e2, e3⟩ := hx.cases_cons
    have ht0 : ts[0]? = some t := by have := congrArg (·[0]?) ht; simpa using this
    split at hb
    · rename_i h' hv
      cases hb
      obtain ⟨w', g1, g2⟩ := clearA_rel (ty := ty) ht0 (at' e1 0) hv e2 hr
      exact ⟨_, _, rfl, Does.ofV ⟨.tuple #[], w', m, g1, g2, LRel.tup .nil⟩⟩
    · cases hb
  · -- unsafe.SliceData of nil
    cases hb
    obtain ⟨cx, cxl, e1, e2, e3⟩ := hx.cases_cons
    cases e3.cases_nil
    obtain rfl := e2.nilsl_inv
    obtain rfl : cargs = #[.slice none 0 0] := Array.ext' e1
    exact ⟨_, _, rfl, Does.pureV hr ⟨.pointer none, rfl, .nilptr⟩⟩
  · -- unsafe.SliceData
    rename_i r o len cap es ex
    obtain ⟨cx, cxl, e1, e2, e3⟩ := hx.cases_cons
    cases e3.cases_nil
    obtain ⟨b, z, ccap, hm, rfl, h1, h2, h3, h4⟩ := e2.sl_inv
    obtain rfl := Array.ext' (ys := #[Value.slice (some ⟨b, o, none⟩) len ccap]) e1
    cases hz : Nat.beq cap 0 with
    | true => rw [hz] at hb; cases hb
    | false =>
      rw [hz] at hb; cases hb
      have hne : ccap ≠ 0 := fun e => by
        have : cap = 0 := by omega
        rw [this] at hz; cases hz
      exact ⟨_, _, rfl, Does.pureV hr ⟨.pointer (some ⟨b, o, none⟩), by show Sem.run P (ite (ccap ≠ 0) _ _) w = _; rw [if_pos hne]; rfl, .ptr hm⟩⟩
  · -- unsafe.String of nil
    rename_i t tu ht
    obtain ⟨cs, csl, e1, e2, e3⟩ := hx.cases_cons
    obtain ⟨cx, cxl, e4, e5, e6⟩ := e3.cases_cons
    subst e4
    cases e6.cases_nil
    obtain rfl := e2.nilptr_inv
    obtain rfl := e5.int_inv
    obtain rfl := Array.ext' (ys := #[Value.pointer none, Value.int .i64 0]) e1
    obtain rfl := Array.ext' (ys := #[t, tu]) ht
    split at hb
    case h_2 => cases hb
    cases hb
    exact ⟨_, _, rfl, Does.pureV hr ⟨.string .empty, Lib.run_unsafeString_none w _ _ _ none, VRel.str ByteArray.empty⟩⟩
  · -- unsafe.String
    rename_i t tu r n ht
    obtain ⟨cs, csl, e1, e2, e3⟩ := hx.cases_cons
    obtain ⟨cx, cxl, e4, e5, e6⟩ := e3.cases_cons
    subst e4
    cases e6.cases_nil
    obtain ⟨b, z, hm, rfl⟩ := e2.ptr_inv
    obtain rfl := e5.int_inv
    obtain rfl := Array.ext' (ys := #[Value.pointer (some ⟨b, 0, none⟩), Value.int .i64 (.ofNat n)]) e1
    obtain rfl := Array.ext' (ys := #[t, tu]) ht
    split at hb
    case h_2 => cases hb
    rename_i u size isAgg zero zeroOk bytes comparable zv e cells hti hg
    have hu := ti_underlying hti
    dsimp only at hu
    split at hb
    case h_2 => cases hb
    rename_i y l hy hsub
    split at hb
    case h_2 => cases hb
    rename_i str hstr
    obtain ⟨hc, he⟩ := cond_some hb
    obtain ⟨c1, hc⟩ := and_bool hc
    obtain ⟨c2, c3⟩ := and_bool hc
    obtain rfl := Nat.eq_of_beq_eq_true c1
    have c2 := Nat.eq_of_beq_eq_true c2
    have c3 := Nat.le_of_ble_eq_true c3
    obtain ⟨hle, rfl⟩ := sub_some hsub
    have hle : 0 + n ≤ cells.length := hle
    obtain ⟨arr, g1, g2, g3, g4⟩ := hr.obj r _ b z hg hm
    have hco := cellsOf_ti2 hy
    have hL : LRel P F m ((cells.drop 0).take n) (arr.toList.take n) := by
      rw [List.drop_zero]
      refine ⟨by simp; omega, fun i x y hx hy => ?_⟩
      rw [List.getElem?_take] at hx hy
      split at hx
      · rename_i hi; rw [if_pos hi] at hy; exact g4 i x y hx (by simpa using hy)
      · cases hx
    obtain ⟨k1, k2⟩ := bytesOf_rel _ str _ hstr hL
    have hslen : str.length = n := by
      have := congrArg List.length k1
      rw [List.length_take, List.length_map, Array.length_toList] at this; omega
    cases hz : Nat.beq n 0 with
    | true =>
      rw [hz] at he
      obtain rfl := Nat.eq_of_beq_eq_true hz
      obtain rfl : str = [] := by cases str with | nil => rfl | cons _ _ => cases hslen
      subst he
      exact ⟨_, _, rfl, Does.pureV hr ⟨.string .empty, Lib.run_unsafeString_none w _ _ _ _, VRel.str ByteArray.empty⟩⟩
    | false =>
      rw [hz, cond_false] at he
      subst he
      have hne : n ≠ 0 := fun e => by rw [e] at hz; cases hz
      have hrun := Lib.run_unsafeString_row (P := P) w t tu ty e hu (by rw [hco]; exact c2) b arr.size (by simp [World.shape?, g1]) (str.map fun n => n.toUInt8) (by cases str with | nil => exact absurd hslen.symm hne | cons _ _ => exact nofun) (by rw [List.length_map]; omega) (by rw [List.length_map]; omega) (fun j x hj => by
        rw [List.getElem?_map] at hj
        cases hq : str[j]? with
        | none => rw [hq] at hj; cases hj
        | some q =>
          rw [hq] at hj; cases hj
          have hq256 := k2 q (List.mem_of_getElem? hq)
          rw [add_none, Nat.zero_add, cell_cells g1]
          have h5 : (arr.toList.take n)[j]? = some (.int .u8 (.ofNat q)) := by rw [k1, List.getElem?_map, hq]; rfl
          rw [List.getElem?_take] at h5
          split at h5
          · have e8 : (q.toUInt8).toNat = q := by
              show (UInt8.ofNat q).toNat = q
              simp; omega
            have h6 : arr[j]? = some (.int .u8 (.ofNat q)) := by simpa using h5
            rw [h6]
            show some (Value.int .u8 (.ofNat q)) = some (Value.int .u8 (Int.ofNat (q.toUInt8).toNat))
            rw [e8]
          · cases h5)
      rw [List.length_map, hslen] at hrun
      have hstr' : VRel P F m (.str str) (.string ⟨(str.map fun n => n.toUInt8).toArray⟩) := by
        have h6 : ((⟨(str.map fun n => n.toUInt8).toArray⟩ : ByteArray).data.toList.map UInt8.toNat) = str := by
          show List.map UInt8.toNat (str.map fun n => n.toUInt8) = str
          rw [List.map_map]
          have hb' : ∀ l : List Nat, (∀ n ∈ l, n < 256) → l.map (UInt8.toNat ∘ fun n => n.toUInt8) = l := fun l hl => by
            induction l with
            | nil => rfl
            | cons n l ih =>
              rw [List.map_cons, ih fun q hq => hl q (List.mem_cons_of_mem _ hq)]
              congr 1
              have := hl n (List.mem_cons_self ..)
              simp; omega
          exact hb' str k2
        have := VRel.str (P := P) (F := F) (m := m) (⟨(str.map fun n => n.toUInt8).toArray⟩ : ByteArray)
        rw [h6] at this; exact this
      have hfr : w.freeze ⟨b, 0, none⟩ n = { w with heap := w.heap.modify b fun
          | .cells c elem (lo, hi) => .cells c elem (if lo == hi then (0, 0 + n) else (min lo 0, max hi (0 + n)))
          | o => o } := by
        unfold World.freeze; rw [if_neg hne]; rfl
      have hat : (w.freeze ⟨b, 0, none⟩ n).heap[b]? = some (.cells arr e (0, 0 + n)) := by
        rw [hfr]
        show (w.heap.modify b _)[b]? = _
        rw [Array.getElem?_modify, if_pos rfl, g1]
        rfl
      have hot : ∀ c, c ≠ b → (w.freeze ⟨b, 0, none⟩ n).heap[c]? = w.heap[c]? := fun c hc => by
        rw [hfr]
        show (w.heap.modify b _)[c]? = _
        rw [Array.getElem?_modify, if_neg (Ne.symm hc)]
      have hsz : (w.freeze ⟨b, 0, none⟩ n).heap.size = w.heap.size := by
        rw [hfr]; exact Array.size_modify
      have hso : SameOut w (w.freeze ⟨b, 0, none⟩ n) := by rw [hfr]; exact ⟨rfl, rfl, rfl⟩
      exact ⟨_, _, rfl, Does.ofV ⟨_, w.freeze ⟨b, 0, none⟩ n, m, hrun, Step.put hr hg rfl hm hat hot hsz hso trivial, hstr'⟩⟩
  · rename_i k a j b i c
    obtain ⟨hk, he⟩ := cond_some hb
    obtain ⟨hk, hk2⟩ := and_bool hk
    obtain rfl := kindEq_iff hk
    obtain rfl := kindEq_iff hk2
    obtain ⟨cs, csl, e1, e2, e3⟩ := hx.cases_cons
    obtain ⟨cx, cxl, e4, e5, e6⟩ := e3.cases_cons
    subst e4
    obtain ⟨cy, cyl, e7, e8, e9⟩ := e6.cases_cons
    subst e7
    cases e9.cases_nil
    obtain rfl := e2.int_inv
    obtain rfl := e5.int_inv
    obtain rfl := e8.int_inv
    subst he
    exact ⟨_, _, rfl, Does.pureV hr ⟨_, min3_rel e1, .int _ _⟩⟩
  · rename_i k a j b
    obtain ⟨hk, he⟩ := cond_some hb
    obtain rfl := kindEq_iff hk
    obtain ⟨cs, csl, e1, e2, e3⟩ := hx.cases_cons
    obtain ⟨cx, cxl, e4, e5, e6⟩ := e3.cases_cons
    subst e4
    cases e6.cases_nil
    obtain rfl := e2.int_inv
    obtain rfl := e5.int_inv
    subst he
    exact ⟨_, _, rfl, Does.pureV hr ⟨_, min_rel e1, .int _ _⟩⟩
  · rename_i k a j b
    obtain ⟨hk, he⟩ := cond_some hb
    obtain rfl := kindEq_iff hk
    obtain ⟨cs, csl, e1, e2, e3⟩ := hx.cases_cons
    obtain ⟨cx, cxl, e4, e5, e6⟩ := e3.cases_cons
    subst e4
    cases e6.cases_nil
    obtain rfl := e2.int_inv
    obtain rfl := e5.int_inv
    subst he
    exact ⟨_, _, rfl, Does.pureV hr ⟨_, max_rel e1, .int _ _⟩⟩
  · cases hb
theorem builtinA_val {C : Ctx} {b : Builtin} {ts : List TypeId} {args : List AV} {h : Hp} {r : OpR} (ho : builtinA C b ts args h = some r) : ∃ v h', r = .val v h' := by
  unfold builtinA at ho
  split at ho
  · split at ho <;> cases ho; exact ⟨_, _, rfl⟩
  · split at ho <;> cases ho; exact ⟨_, _, rfl⟩
  · split at ho <;> cases ho; exact ⟨_, _, rfl⟩
  · split at ho <;> cases ho; exact ⟨_, _, rfl⟩
  · cases ho; exact ⟨_, _, rfl⟩
  · cases ho; exact ⟨_, _, rfl⟩
  · cases ho; exact ⟨_, _, rfl⟩
  · split at ho <;> cases ho; exact ⟨_, _, rfl⟩
  · cases ho; exact ⟨_, _, rfl⟩
  · rename_i r o len cap es ex
    cases hz : Nat.beq cap 0 with
    | true => rw [hz] at ho; cases ho
    | false => rw [hz] at ho; cases ho; exact ⟨_, _, rfl⟩
  · split at ho <;> cases ho; exact ⟨_, _, rfl⟩
  · split at ho
    case h_2 => cases ho
    split at ho
    case h_2 => cases ho
    split at ho
    case h_2 => cases ho
    obtain ⟨_, he⟩ := cond_some ho; exact ⟨_, _, he.symm⟩
  · obtain ⟨_, he⟩ := cond_some ho; exact ⟨_, _, he.symm⟩
  · obtain ⟨_, he⟩ := cond_some ho; exact ⟨_, _, he.symm⟩
  · obtain ⟨_, he⟩ := cond_some ho; exact ⟨_, _, he.symm⟩
  · cases ho
theorem builtinA_le {C : Ctx} {b : Builtin} {ts : List TypeId} {args : List AV} {h h' : Hp} {v : AV} (hb : builtinA C b ts args h = some (.val v h')) : HpLe h h' := by
  unfold builtinA at hb
  split at hb
  · split at hb
    · cases hb; exact .refl _
    · cases hb
  · split at hb
    · rename_i hv; cases hb; exact appendA_le hv
    · cases hb
  · split at hb
    · rename_i hv; cases hb; exact copyA_le hv
    · cases hb
  · split at hb
    · rename_i hv; cases hb; exact mapDel_le hv
    · cases hb
  · cases hb; exact .refl _
  · cases hb; exact .refl _
  · cases hb; exact .refl _
  · split at hb
    · rename_i hv; cases hb; exact clearA_le hv
    · cases hb
  · cases hb; exact .refl _
  · rename_i r o len cap es ex
    cases hz : Nat.beq cap 0 with
    | true => rw [hz] at hb; cases hb
    | false => rw [hz] at hb; cases hb; exact .refl _
  · split at hb
    · cases hb; exact .refl _
    · cases hb
  · rename_i t tu r n
    split at hb
    case h_2 => cases hb
    rename_i hg
    split at hb
    case h_2 => cases hb
    split at hb
    case h_2 => cases hb
    obtain ⟨_, he⟩ := cond_some hb
    cases hz : Nat.beq n 0 with
    | true => rw [hz] at he; cases he; exact .refl _
    | false => rw [hz] at he; cases he; exact .put hg _
  · obtain ⟨_, he⟩ := cond_some hb; cases he; exact .refl _
  · obtain ⟨_, he⟩ := cond_some hb; cases he; exact .refl _
  · obtain ⟨_, he⟩ := cond_some hb; cases he; exact .refl _
  · cases hb
end
end Go.Ax

/- Calls of functions: what they leave, from what their bodies do. -/
namespace Go.Ax
section
variable {P : Program} {F : Nat → Option Obj} {gl : Nat → AV} {eqT : Knob} {m : Loc}

inductive XRel (P : Program) (F : Nat → Option Obj) (m : Loc) : Ex → Exit → Prop
  | normal : XRel P F m .normal .normal
  | exit (id : Nat) : XRel P F m (.exit id) (.exit id)
  | goto (l : Nat) : XRel P F m (.goto l) (.goto l)
  | ret : XRel P F m .ret .ret
  | panic {v : AV} {cv : Value} (h : VRel P F m v cv) : XRel P F m (.panic v) (.panic [{ v := cv, recovered := false }])

/-- What is told of the way in which code is left. -/
def Post (P : Program) (F : Nat → Option Obj) (m : Loc) (h : Hp) (s' : St) (w : World) (e : Ex) : Exit → Act → World → Prop :=
  fun x a' w' => ∃ m', XRel P F m' e x ∧ Step P F m h s'.h w w' m' ∧ ARel P F m' s' a'

/-- An evaluator of code that says nothing untrue. -/
def Sound (P : Program) (F : Nat → Option Obj) (ih : Code → St → Res) : Prop :=
  ∀ c s e s', ih c s = some (e, s') → HpLe s.h s'.h ∧ s'.rd = s.rd ∧ s'.n = s.n ∧
    ∀ m a w fe k, HRel P F m s.h w → ARel P F m s a → FenRel m s.rd fe → Free m s.h s'.h → c.wpIn fe k P (Post P F m s.h s' w e) a w

theorem Free.first {h h1 h2 : Hp} (hf : Free m h h2) (hle : h1.nx ≤ h2.nx) : Free m h h1 := fun r h3 h4 => hf r h3 (Nat.lt_of_lt_of_le h4 hle)
theorem Free.after {h h1 h2 : Hp} {w w1 : World} {m1 : Loc} (hs : Step P F m h h1 w w1 m1) (hf : Free m h h2) : Free m1 h1 h2 := fun r h3 h4 => by
  cases hm : m1 r with
  | none => rfl
  | some c =>
    cases hm0 : m r with
    | none => have := (hs.new r c hm hm0).2; omega
    | some d => have := hf r (Nat.le_trans hs.nx h3) h4; rw [hm0] at this; cases this

/-! ### Arguments -/
theorem tget_e (t : Nat) : tget .e t = .tup [] := by unfold tget; rw [Tr.get_e]
theorem tget_setArgs : ∀ (l : List AV) (tm : Tr AV) (i t : Nat), tget (setArgs tm i l) t = if i ≤ t then (match l[t - i]? with | some v => v | none => tget tm t) else tget tm t := by
  intro l
  induction l with
  | nil => intro tm i t; simp [setArgs]
  | cons v l ih =>
    intro tm i t
    show tget (setArgs (tm.set i v) (i + 1) l) t = _
    rw [ih, tget_set]
    by_cases h1 : i + 1 ≤ t
    · have e : t - i = (t - (i + 1)) + 1 := by omega
      rw [if_pos h1, if_pos (show i ≤ t by omega), if_neg (show ¬ i = t by omega), e, List.getElem?_cons_succ]
    · rw [if_neg h1]
      by_cases h2 : i = t
      · subst h2; rw [if_pos rfl, if_pos (Nat.le_refl _), Nat.sub_self]; rfl
      · rw [if_neg h2, if_neg (by omega)]
theorem args_rel {args : List AV} {cargs : Array Value} {n : Nat} (h : LRel P F m args cargs.toList) (hn : args.length ≤ n) :
    TRel P F m (setArgs .e 0 args) n (cargs ++ Array.replicate (n - cargs.size) Go.undef) := by
  have hl : args.length = cargs.size := by have := h.len; simpa using this
  refine ⟨by simp; omega, fun t ht => ?_, fun t ht => ?_⟩
  · rw [tget_setArgs, if_pos (Nat.zero_le _), Nat.sub_zero, Array.getD_eq_getD_getElem?]
    by_cases hlt : t < args.length
    · obtain ⟨y, hy, hrel⟩ := h.get (List.getElem?_eq_getElem hlt)
      rw [List.getElem?_eq_getElem hlt, Array.getElem?_append_left (by omega)]
      rw [Array.getElem?_toList] at hy
      rw [hy]; exact hrel
    · rw [List.getElem?_eq_none (by omega), Array.getElem?_append_right (by omega), Array.getElem?_replicate, if_pos (by omega), tget_e]
      exact LRel.tup .nil
  · rw [tget_setArgs, if_pos (Nat.zero_le _), Nat.sub_zero, List.getElem?_eq_none (by omega), tget_e]

/-! ### Results -/
theorem asAddr_sure {cp : Value} {t : TypeId} {cv : Value} {w : World} (h : (Instr.loadAt t cp).run P w = .ok cv w) : (do loadVar t (← asAddr cp) : Sem Value).run P w = .ok cv w := by
  unfold Instr.loadAt at h
  cases cp with
  | pointer a => cases a with
    | none => simp [Instr.sureAddr, stuck, Result.andThen] at h
    | some a => exact h
  | _ => simp [Instr.sureAddr, stuck, Result.andThen] at h
theorem resultsA_rel {s : St} {tmps : Array Value} {w : World} (ht : ∀ t, VRel P F m (tget s.tm t) (tmps.getD t Go.undef)) (hr : HRel P F m s.h w) : ∀ (l : List ResultVar) (vs : List AV), resultsA (Ctx.of P gl eqT) s l = some vs →
    ∃ cvs, (l.mapM fun | ResultVar.tmp t => (pure (tmps.getD t Go.undef) : Sem Value) | .cell a t => do loadVar t (← asAddr (tmps.getD a Go.undef))).run P w = .ok cvs w ∧ LRel P F m vs cvs
  | [], vs, h => by cases h; exact ⟨[], by simp, .nil⟩
  | .tmp t :: l, vs, h => by
    unfold resultsA at h
    split at h
    · rename_i us hu
      cases h
      obtain ⟨cvs, h1, h2⟩ := resultsA_rel ht hr l us hu
      refine ⟨tmps.getD t Go.undef :: cvs, ?_, .cons (ht t) h2⟩
      rw [List.mapM_cons]
      simp only [Sem.run_bind, Sem.run_pure, Result.andThen]
      rw [h1]
    · cases h
  | .cell a t :: l, vs, h => by
    unfold resultsA at h
    split at h
    · rename_i v us hv hu
      cases h
      obtain ⟨cvs, h1, h2⟩ := resultsA_rel ht hr l us hu
      obtain ⟨cv, h3, h4⟩ := loadAt_rel hv (ht a) hr
      refine ⟨cv :: cvs, ?_, .cons h4 h2⟩
      have h5 := asAddr_sure h3
      rw [List.mapM_cons, Sem.run_bind, h5]
      simp only [Sem.run_bind, Sem.run_pure, Result.andThen]
      rw [h1]
    · cases h
theorem results_rel {s : St} {fn : Func} {tmps : Array Value} {w : World} {vs : List AV} (ht : ∀ t, VRel P F m (tget s.tm t) (tmps.getD t Go.undef)) (hr : HRel P F m s.h w) (h : resultsA (Ctx.of P gl eqT) s fn.results.toList = some vs) :
    ∃ cv, (results fn tmps).run P w = .ok cv w ∧ VRel P F m (tupOf vs) cv := by
  obtain ⟨cvs, h1, h2⟩ := resultsA_rel ht hr _ _ h
  have h3 : (results fn tmps).run P w = .ok (if h : cvs.toArray.size = 1 then cvs.toArray[0] else .tuple cvs.toArray) w := by
    unfold results
    rw [Array.mapM_eq_mapM_toList, Sem.run_bind, Sem.run_map]
    exact congrArg (fun r => Result.andThen (Result.andThen r fun a w' => Result.ok a.toArray w') fun a w' => Sem.run P (pure (if h : a.size = 1 then a[0] else Value.tuple a)) w') h1
  refine ⟨_, h3, ?_⟩
  have hl := h2.len
  match vs, cvs, h2, hl with
  | [], [], h2, _ => exact LRel.tup h2
  | [v], [c], h2, _ => exact h2.head
  | v :: u :: vs, c :: d :: cvs, h2, _ =>
    rw [dif_neg (by simp)]
    exact LRel.tup h2

/-! ### What was deferred -/
theorem callFunc_enter {f : FuncId} {fn : Func} {c : Code} (hf : P.funcs[f]? = some fn) (hname : (fn.name == "runtime.NumGoroutine") = false) (hb : fn.body = some c) (args : Array Value) (w : World) :
    (callFunc f args).run P w = .ok (.enter f args) w := by
  have h1 : fn.name ≠ "runtime.NumGoroutine" := by simpa using hname
  simp [callFunc, hf, h1, hb]
theorem run_recover {o : Oper} {d : Nat} {ρ : Operand → Value} {w : World} (h : isRec o = some d) : (execOp ρ o).run P w = .ok .recover w ∧ o.guard = none ∧ o.dst = some d := by
  unfold isRec at h
  split at h
  case h_2 => cases h
  rename_i c d' hop hg hd
  split at h
  case h_2 => cases h
  rename_i hc
  cases h
  refine ⟨?_, hg, hd⟩
  unfold execOp
  rw [hop]
  simp [resolve, hc, invoke, builtin]
theorem wpSIn_mono {Fe : Fence} {k : Nat} {P : Program} {Q R : Exit → Act → List Frame → World → Prop} {c : Code} {a : Act} {cs : List Frame} {w : World} (h : c.wpSIn Fe k P Q a cs w) (hqr : ∀ x a' cs' w', Q x a' cs' w' → R x a' cs' w') : c.wpSIn Fe k P R a cs w :=
  fun b k' h1 h2 h3 h4 => let ⟨e, a', cs', w', l, q, r⟩ := h b k' h1 h2 h3 h4; ⟨e, a', cs', w', l, hqr _ _ _ _ q, r⟩
theorem deferB_rel {ih : Code → St → Res} (hih : Sound P F ih) {c : Code} {s : St} {e : Ex} {s' : St} (h : deferB ih c s = some (e, s')) : HpLe s.h s'.h ∧ s'.rd = s.rd ∧ s'.n = s.n ∧
    ∀ m a w k c₀ cs, c₀.mode = .returning → s.rd = none → HRel P F m s.h w → ARel P F m s a → Free m s.h s'.h → c.wpSIn Fence.wide k P (fun x a' cs' w' => cs' = c₀ :: cs ∧ Post P F m s.h s' w e x a' w') a (c₀ :: cs) w := by
  have plain : ih c s = some (e, s') → HpLe s.h s'.h ∧ s'.rd = s.rd ∧ s'.n = s.n ∧
    ∀ m a w k c₀ cs, c₀.mode = .returning → s.rd = none → HRel P F m s.h w → ARel P F m s a → Free m s.h s'.h → c.wpSIn Fence.wide k P (fun x a' cs' w' => cs' = c₀ :: cs ∧ Post P F m s.h s' w e x a' w') a (c₀ :: cs) w := fun h => by
    obtain ⟨g1, g2, g3, g4⟩ := hih _ _ _ _ h
    exact ⟨g1, g2, g3, fun m a w k c₀ cs _ hrd hR hA hF => wpSIn_of_wpIn rfl (wpIn_mono (g4 m a w _ k hR hA (by rw [hrd]; rfl) hF) fun x a' w' hp => ⟨rfl, hp⟩)⟩
  unfold deferB at h
  split at h
  case h_2 => exact plain h
  rename_i id ops rest
  split at h
  case h_2 => exact plain h
  rename_i o ho
  split at h
  case h_2 => exact plain h
  rename_i d hrec
  split at h
  case h_2 => cases h
  rename_i s1 hp
  obtain ⟨g1, g2, g3, g4⟩ := hih _ _ _ _ h
  have hp' : s1.h = s.h ∧ s1.rd = s.rd ∧ s1.n = s.n := by
    unfold putD at hp
    dsimp only at hp
    obtain ⟨_, rfl⟩ := cond_some hp
    exact ⟨rfl, rfl, rfl⟩
  obtain ⟨p1, p2, p3⟩ := hp'
  refine ⟨by rw [← p1]; exact g1, by rw [g2, p2], by rw [g3, p3], fun m a w k c₀ cs hmode hrd hR hA hF => ?_⟩
  have hops : ops = #[o] := by
    cases ops with
    | mk l => simp only at ho; rw [ho]
  subst hops
  refine wpSIn_seq (wpSIn_region ?_)
  show wpOpsSIn Fence.wide k P #[o] _ [0] a (c₀ :: cs) w
  obtain ⟨r1, r2, r3⟩ := run_recover (P := P) (ρ := a.eval) (w := w) hrec
  simp only [wpOpsSIn]
  have h0 : (#[o] : Array Oper)[0]? = some o := rfl
  rw [h0]
  dsimp only
  refine ⟨fun f _ => trivial, ?_⟩
  have hw : Region.wanted o (yielded #[o] a.tmps) = true := by unfold Region.wanted; rw [r2]
  rw [if_pos hw, r1]
  dsimp only
  have hrecD : recoverD (c₀ :: cs) = none := by simp [recoverD, hmode]
  rw [hrecD]
  dsimp only
  obtain ⟨q1, q2, q3, q4, q5⟩ := putD_rel (m := m) (v := .nilif) (cv := .nilIface) hp hA .nilif
  rw [r3]
  refine wpSIn_of_wpIn rfl (wpIn_mono (g4 m _ w _ k (by rw [p1]; exact hR) q1 (by rw [p2, hrd]; rfl) (by rw [p1]; exact hF)) fun x a' w' hq => ⟨rfl, ?_⟩)
  rw [p1] at hq; exact hq
theorem deferF_rel {ih : Code → St → Res} (hih : Sound P F ih) {f : FuncId} {args : List AV} {h h' : Hp} (hc : deferF (Ctx.of P gl eqT) ih f args h = some h') : HpLe h h' ∧ (∃ fn c, P.funcs[f]? = some fn ∧ fn.body = some c) ∧
    ∀ m w n cargs, HRel P F m h w → LRel P F m args cargs.toList → Free m h h' → CallsDIn Fence.wide n P f cargs .returning w fun e u' w' => u' = .returning ∧ ∃ cv m', e = .returned cv ∧ Step P F m h h' w w' m' := by
  unfold deferF at hc
  split at hc
  case h_2 => cases hc
  rename_i fn hf
  have hf := Ctx.of_fn hf
  split at hc
  case h_2 => cases hc
  rename_i c hb
  obtain ⟨hle, hc⟩ : Nat.ble args.length fn.ntmps = true ∧ _ := by
    cases hle : Nat.ble args.length fn.ntmps with
    | false => rw [hle] at hc; cases hc
    | true => rw [hle] at hc; exact ⟨rfl, hc⟩
  simp only [cond_true] at hc
  have hle := Nat.le_of_ble_eq_true hle
  split at hc
  case h_2 => cases hc
  rename_i e s hr
  obtain ⟨g1, g2, g3, g4⟩ := deferB_rel hih hr
  have key : (e = .normal ∨ e = .ret) ∧ s.ds = [] ∧ (∃ vs, resultsA (Ctx.of P gl eqT) s fn.results.toList = some vs) ∧ h' = s.h := by
    split at hc
    · rename_i hds hres; cases hc; exact ⟨.inl rfl, hds, ⟨_, hres⟩, rfl⟩
    · rename_i hds hres; cases hc; exact ⟨.inr rfl, hds, ⟨_, hres⟩, rfl⟩
    · cases hc
  obtain ⟨he, hds, ⟨vs, hres⟩, rfl⟩ := key
  refine ⟨g1, ⟨fn, c, hf, hb⟩, fun m w n cargs hR hA hF => callsDIn_of_wpSIn hf hb trivial fun c₀ cs hmode => ?_⟩
  have main := g4 m { tmps := cargs ++ Array.replicate (fn.ntmps - cargs.size) Go.undef, defers := [] } w n c₀ cs hmode rfl hR ⟨args_rel hA hle, .nil⟩ hF
  refine wpSIn_mono main fun x a' cs' w' hq => ?_
  obtain ⟨rfl, m', hx, hs, ha⟩ := hq
  have hd : a'.defers = [] := by
    have hz := ha.ds
    rw [hds] at hz
    generalize a'.defers = dd at hz
    cases hz; rfl
  have ht : ∀ t, VRel P F m' (tget s.tm t) (a'.tmps.getD t Go.undef) := fun t => by
    by_cases hlt : t < s.n
    · exact ha.tm.at' t hlt
    · rw [ha.tm.out t (by omega), Array.getD_eq_getD_getElem?, Array.getElem?_eq_none (by rw [ha.tm.size]; omega)]
      exact LRel.tup .nil
  obtain ⟨cv, h1, _⟩ := results_rel ht hs.rel hres
  have hc0 : c₀ = { c₀ with mode := .returning } := by rw [← hmode]
  rcases he with rfl | rfl <;> cases hx
  · exact ⟨hd, .returning, by rw [← hc0], cv, h1, rfl, cv, m', rfl, hs⟩
  · exact ⟨hd, .returning, by rw [← hc0], cv, h1, rfl, cv, m', rfl, hs⟩
theorem recB_rel {ih : Code → St → Res} (hih : Sound P F ih) {v : AV} {c : Code} {s : St} {e : Ex} {s' : St} (h : recB ih v c s = some (e, s')) : HpLe s.h s'.h ∧ s'.rd = s.rd ∧ s'.n = s.n ∧
    ∀ m a w k c₀ cs pv, c₀.mode = .panicking [{ v := pv, recovered := false }] → VRel P F m v pv → s.rd = none → HRel P F m s.h w → ARel P F m s a → Free m s.h s'.h →
      c.wpSIn Fence.wide k P (fun x a' cs' w' => cs' = { c₀ with mode := .panicking [{ v := pv, recovered := true }] } :: cs ∧ Post P F m s.h s' w e x a' w') a (c₀ :: cs) w := by
  unfold recB at h
  split at h
  case h_2 => cases h
  rename_i id ops rest
  split at h
  case h_2 => cases h
  rename_i o ho
  split at h
  case h_2 => cases h
  rename_i d hrec
  split at h
  case h_2 => cases h
  rename_i s1 hp
  obtain ⟨g1, g2, g3, g4⟩ := hih _ _ _ _ h
  have hp' : s1.h = s.h ∧ s1.rd = s.rd ∧ s1.n = s.n := by
    unfold putD at hp
    dsimp only at hp
    obtain ⟨_, rfl⟩ := cond_some hp
    exact ⟨rfl, rfl, rfl⟩
  obtain ⟨p1, p2, p3⟩ := hp'
  refine ⟨by rw [← p1]; exact g1, by rw [g2, p2], by rw [g3, p3], fun m a w k c₀ cs pv hmode hpv hrd hR hA hF => ?_⟩
  have hops : ops = #[o] := by
    cases ops with
    | mk l => simp only at ho; rw [ho]
  subst hops
  refine wpSIn_seq (wpSIn_region ?_)
  show wpOpsSIn Fence.wide k P #[o] _ [0] a (c₀ :: cs) w
  obtain ⟨r1, r2, r3⟩ := run_recover (P := P) (ρ := a.eval) (w := w) hrec
  simp only [wpOpsSIn]
  have h0 : (#[o] : Array Oper)[0]? = some o := rfl
  rw [h0]
  dsimp only
  refine ⟨fun f _ => trivial, ?_⟩
  have hw : Region.wanted o (yielded #[o] a.tmps) = true := by unfold Region.wanted; rw [r2]
  rw [if_pos hw, r1]
  dsimp only
  have hrecD : recoverD (c₀ :: cs) = some (pv, { c₀ with mode := .panicking [{ v := pv, recovered := true }] } :: cs) := by simp [recoverD, hmode]
  rw [hrecD]
  dsimp only
  obtain ⟨q1, q2, q3, q4, q5⟩ := putD_rel (m := m) (v := v) (cv := pv) hp hA hpv
  rw [r3]
  refine wpSIn_of_wpIn rfl (wpIn_mono (g4 m _ w _ k (by rw [p1]; exact hR) q1 (by rw [p2, hrd]; rfl) (by rw [p1]; exact hF)) fun x a' w' hq => ⟨rfl, ?_⟩)
  rw [p1] at hq; exact hq
theorem recF_rel {ih : Code → St → Res} (hih : Sound P F ih) {v : AV} {f : FuncId} {args : List AV} {h h' : Hp} (hc : recF (Ctx.of P gl eqT) ih v f args h = some h') : HpLe h h' ∧ (∃ fn c, P.funcs[f]? = some fn ∧ fn.body = some c) ∧
    ∀ m w n cargs pv, HRel P F m h w → VRel P F m v pv → LRel P F m args cargs.toList → Free m h h' → CallsDIn Fence.wide n P f cargs (.panicking [{ v := pv, recovered := false }]) w fun e u' w' => u' = .panicking [{ v := pv, recovered := true }] ∧ ∃ cv m', e = .returned cv ∧ Step P F m h h' w w' m' := by
  unfold recF at hc
  split at hc
  case h_2 => cases hc
  rename_i fn hf
  have hf := Ctx.of_fn hf
  split at hc
  case h_2 => cases hc
  rename_i c hb
  obtain ⟨hle, hc⟩ : Nat.ble args.length fn.ntmps = true ∧ _ := by
    cases hle : Nat.ble args.length fn.ntmps with
    | false => rw [hle] at hc; cases hc
    | true => rw [hle] at hc; exact ⟨rfl, hc⟩
  simp only [cond_true] at hc
  have hle := Nat.le_of_ble_eq_true hle
  split at hc
  case h_2 => cases hc
  rename_i e s hr
  obtain ⟨g1, g2, g3, g4⟩ := recB_rel hih hr
  have key : (e = .normal ∨ e = .ret) ∧ s.ds = [] ∧ (∃ vs, resultsA (Ctx.of P gl eqT) s fn.results.toList = some vs) ∧ h' = s.h := by
    split at hc
    · rename_i hds hres; cases hc; exact ⟨.inl rfl, hds, ⟨_, hres⟩, rfl⟩
    · rename_i hds hres; cases hc; exact ⟨.inr rfl, hds, ⟨_, hres⟩, rfl⟩
    · cases hc
  obtain ⟨he, hds, ⟨vs, hres⟩, rfl⟩ := key
  refine ⟨g1, ⟨fn, c, hf, hb⟩, fun m w n cargs pv hR hpv hA hF => callsDIn_of_wpSIn hf hb trivial fun c₀ cs hmode => ?_⟩
  have main := g4 m { tmps := cargs ++ Array.replicate (fn.ntmps - cargs.size) Go.undef, defers := [] } w n c₀ cs pv hmode hpv rfl hR ⟨args_rel hA hle, .nil⟩ hF
  refine wpSIn_mono main fun x a' cs' w' hq => ?_
  obtain ⟨rfl, m', hx, hs, ha⟩ := hq
  have hd : a'.defers = [] := by
    have hz := ha.ds
    rw [hds] at hz
    generalize a'.defers = dd at hz
    cases hz; rfl
  have ht : ∀ t, VRel P F m' (tget s.tm t) (a'.tmps.getD t Go.undef) := fun t => by
    by_cases hlt : t < s.n
    · exact ha.tm.at' t hlt
    · rw [ha.tm.out t (by omega), Array.getD_eq_getD_getElem?, Array.getElem?_eq_none (by rw [ha.tm.size]; omega)]
      exact LRel.tup .nil
  obtain ⟨cv, h1, _⟩ := results_rel ht hs.rel hres
  rcases he with rfl | rfl <;> cases hx
  · exact ⟨hd, _, rfl, cv, h1, rfl, cv, m', rfl, hs⟩
  · exact ⟨hd, _, rfl, cv, h1, rfl, cv, m', rfl, hs⟩
theorem runDefs_le {ih : Code → St → Res} (hih : Sound P F ih) : ∀ (ds : List ADef) (h h' : Hp), runDefs (Ctx.of P gl eqT) ih ds h = some h' → HpLe h h'
  | [], h, h', e => by cases e; exact .refl _
  | .coll r :: l, h, h', e => by
    unfold runDefs at e
    split at e
    · rename_i hg
      exact (HpLe.put hg _).trans (runDefs_le hih l _ _ e)
    · cases e
  | .fn (.func g) cap args :: l, h, h', e => by
    unfold runDefs at e
    split at e
    · rename_i h1 hd
      exact (deferF_rel hih hd).1.trans (runDefs_le hih l _ _ e)
    · cases e
  | .clr t x :: l, h, h', e => by
    unfold runDefs at e
    split at e
    · rename_i h1 hd
      exact (clearA_le hd).trans (runDefs_le hih l _ _ e)
    · cases e
  | .fn (.yield _) _ _ :: _, _, _, e => by cases e
  | .fn (.method _) _ _ :: _, _, _, e => by cases e
theorem runDefs_rel (hN : ∀ (f : FuncId) (fn : Func), P.funcs[f]? = some fn → fn.body.isSome = true → (fn.name == "runtime.NumGoroutine") = false) {ih : Code → St → Res} (hih : Sound P F ih) {n : Nat} {fn : Func} {tmps : Array Value} {R : Ending → World → Prop} :
    ∀ (ds : List ADef) (cds : List Deferred) (h h' : Hp) (w : World) (m : Loc), DsRel P F m ds cds → runDefs (Ctx.of P gl eqT) ih ds h = some h' → HRel P F m h w → Free m h h' →
    (∀ w' m', Step P F m h h' w w' m' → ∃ v, (results fn tmps).run P w' = .ok v w' ∧ R (.returned v) w') → LeavesB Fence.wide n P fn tmps R cds .returning w
  | [], cds, h, h', w, m, hd, e, hr, _, hk => by
    cases hd; cases e
    exact hk w m (Step.refl hr rfl (SameOut.refl w))
  | .coll r :: l, cds, h, h', w, m, hd, e, hr, hF, hk => by
    unfold runDefs at e
    split at e
    case h_2 => cases e
    rename_i hg
    cases hd with
    | cons hd hds =>
    cases hd with
    | coll hm =>
      rename_i b z
      rcases hr.obj r _ b z hg hm with ⟨_, ho⟩ | ⟨ho, _⟩
      case inr => cases ho
      have hs : Step P F m h (h.put r (.defd none)) w _ m := Step.obj hr hg rfl hm (ob := .deferred none) (.inr ⟨rfl, rfl⟩)
      refine ⟨by simp, .inl ⟨b, _, rfl, ?_, runDefs_rel hN hih l _ _ h' _ m hds e hs.rel (Free.after hs hF) fun w' m' hw' => hk w' m' (hs.trans hw')⟩⟩
      unfold Instr.takeDeferred
      rw [Sem.run_bind, run_getObj ho rfl]
      simp only [Result.andThen, Sem.run_bind]
      rw [run_setObj ho rfl]
      rfl
  | .fn (.func g) cap args :: l, cds, h, h', w, m, hd, e, hr, hF, hk => by
    unfold runDefs at e
    split at e
    case h_2 => cases e
    rename_i h1 hdf
    cases hd with
    | cons hd hds =>
    cases hd with
    | fn q1 q2 =>
      rename_i cds ccap cargs
      obtain ⟨d1, ⟨fn', c', hf', hb'⟩, d3⟩ := deferF_rel hih hdf
      have hle := runDefs_le hih l _ _ e
      refine ⟨by simp, .inr (.inr ⟨fun h => (by cases h), .func g, ccap, g, cargs ++ ccap, rfl, ?_, fun _ _ => trivial, (d3 m w (n - 1) (cargs ++ ccap) hr (by rw [Array.toList_append]; exact q2.append q1) (hF.first hle.nx)).mono fun e' u' w' hq => ?_⟩)⟩
      · show Sem.run P (callFunc g (cargs ++ ccap)) w = _
        exact callFunc_enter hf' (hN g fn' hf' (by rw [hb']; rfl)) hb' _ w
      · obtain ⟨rfl, cv, m', rfl, hs⟩ := hq
        show LeavesB Fence.wide n P fn tmps R cds (settle .returning) w'
        exact runDefs_rel hN hih l _ _ h' w' m' (hds.mono hs.le) e hs.rel (Free.after hs hF) fun w2 m2 hw2 => hk w2 m2 (hs.trans hw2)
  | .clr t x :: l, cds, h, h', w, m, hd, e, hr, hF, hk => by
    unfold runDefs at e
    split at e
    case h_2 => cases e
    rename_i h1 hdf
    cases hd with
    | cons hd hds =>
    cases hd with
    | clr q1 q2 q3 =>
      rename_i cds ty cx ts k args
      obtain ⟨w', g1, g2⟩ := clearA_rel (ty := ty) q1 q2 hdf q3 hr
      refine ⟨by simp, .inr (.inl ⟨.clear, ts, ty, k, .tuple #[], w', rfl, ?_, runDefs_rel hN hih l _ _ h' _ m hds e g2.rel (Free.after g2 hF) fun w2 m2 hw2 => hk w2 m2 (g2.trans hw2)⟩)⟩
      show Sem.run P (builtin .clear ts ty k args) w = _
      unfold builtin
      simp [g1]
  | .fn (.yield _) _ _ :: _, _, _, _, _, _, _, e, _, _, _ => by cases e
  | .fn (.method _) _ _ :: _, _, _, _, _, _, _, e, _, _, _ => by cases e

theorem ret_rel' (hN : ∀ (f : FuncId) (fn : Func), P.funcs[f]? = some fn → fn.body.isSome = true → (fn.name == "runtime.NumGoroutine") = false) {ih : Code → St → Res} (hih : Sound P F ih) {s : St} {h' : Hp} {fn : Func} {vs : List AV} {m1 : Loc} {h h1 : Hp} {w w1 : World} {tmps : Array Value} {ds : List ADef} {cds : List Deferred} {n : Nat} (ha : TRel P F m1 s.tm s.n tmps) (hds : DsRel P F m1 ds cds) (hs : Step P F m h h1 w w1 m1) (hF : Free m1 h1 h') (hd : runDefs (Ctx.of P gl eqT) ih ds h1 = some h') (hres : resultsA (Ctx.of P gl eqT) { s with h := h' } fn.results.toList = some vs) :
    LeavesB Fence.wide n P fn tmps (fun e w' => ∃ cv m', e = .returned cv ∧ Step P F m h h' w w' m' ∧ VRel P F m' (tupOf vs) cv) cds .returning w1 := by
  refine runDefs_rel hN hih ds _ h1 h' w1 m1 hds hd hs.rel hF fun w' m' hw' => ?_
  have ht : ∀ t, VRel P F m' (tget s.tm t) (tmps.getD t Go.undef) := fun t => by
    by_cases hlt : t < s.n
    · exact (ha.at' t hlt).mono hw'.le
    · rw [ha.out t (by omega), Array.getD_eq_getD_getElem?, Array.getElem?_eq_none (by rw [ha.size]; omega)]
      exact LRel.tup .nil
  obtain ⟨cv, h1, h2⟩ := results_rel (s := { s with h := h' }) ht hw'.rel hres
  exact ⟨cv, h1, cv, m', rfl, hs.trans hw', h2⟩
theorem ret_rel (hN : ∀ (f : FuncId) (fn : Func), P.funcs[f]? = some fn → fn.body.isSome = true → (fn.name == "runtime.NumGoroutine") = false) {ih : Code → St → Res} (hih : Sound P F ih) {s : St} {h' : Hp} {fn : Func} {vs : List AV} {m1 : Loc} {h : Hp} {w w1 : World} {a : Act} {n : Nat} (ha : ARel P F m1 s a) (hs : Step P F m h s.h w w1 m1) (hF : Free m1 s.h h') (hd : runDefs (Ctx.of P gl eqT) ih s.ds s.h = some h') (hres : resultsA (Ctx.of P gl eqT) { s with h := h' } fn.results.toList = some vs) :
    LeavesB Fence.wide n P fn a.tmps (fun e w' => ∃ cv m', e = .returned cv ∧ Step P F m h h' w w' m' ∧ VRel P F m' (tupOf vs) cv) a.defers .returning w1 :=
  ret_rel' hN hih ha.tm ha.ds hs hF hd hres
theorem callF_rel (hP : POk P F gl eqT) {ih : Code → St → Res} (hih : Sound P F ih) {f : FuncId} {args : List AV} {h : Hp} {r : OpR} (hc : callF (Ctx.of P gl eqT) ih f args h = some r) :
    ∃ v h' fn c, r = .val v h' ∧ P.funcs[f]? = some fn ∧ fn.body = some c ∧ HpLe h h' ∧ Calling P F h h' v f args := by
  unfold callF at hc
  split at hc
  case h_2 => cases hc
  rename_i fn hf
  have hf := Ctx.of_fn hf
  split at hc
  case h_2 => cases hc
  rename_i c hb
  split at hc
  · rename_i v ho
    cases hc
    refine ⟨_, _, fn, c, rfl, hf, hb, .refl _, fun m w n cargs hR hA _ => (hP.orc _ _ _ ho m w n cargs hR.frz hA).mono fun e w' he => ?_⟩
    obtain ⟨cv, fz, rfl, hs, hz, hold, hfz, hle, hnew, hv⟩ := he
    have hlm : Loc.le m ⟨m, fz⟩ := ⟨fun _ _ h => h, hle⟩
    refine ⟨cv, ⟨m, fz⟩, rfl, ⟨hlm, fun r c h1 h2 => ?_, ⟨fun r o b z hg hm => ?_, hR.inj, fun r o b z hg hl hm => ?_, fun b o hb => ?_, hR.wf⟩, hs, hz, fun b hb _ => hold b hb, Nat.le_refl _, fun r o' c hg hl _ => ⟨o', hg, hl⟩, fun r b z h1 h2 _ => ?_, fun b o hb => (hnew b o hb).imp_right .inl⟩, VRel.mono (m := ⟨fun _ => none, fz⟩) (m' := ⟨m, fz⟩) ⟨fun r c h => (by cases h), fun _ _ h => h⟩ hv⟩
    · have h1 : m r = some c := h1
      rw [h2] at h1; cases h1
    · have h1 := hR.obj r o b z hg hm
      by_cases hl : o.live = true
      · rw [hold b (hR.lt hg hl hm)]; exact h1.mono hlm
      · cases o <;> first | trivial | exact absurd rfl hl
    · obtain ⟨h1, h2⟩ := hR.out r o b z hg hl hm
      refine ⟨h1, ?_⟩
      show fz b = none
      cases hf : fz b with
      | none => rfl
      | some x => rcases hnew b x hf with h3 | h3
                  · rw [h2] at h3; cases h3
                  · have := hR.lt hg hl hm; omega
    · rcases hb with hb | hb
      · have h1 : Fz F m b o := .inl hb
        rw [hold b (hR.flt h1)]; exact hR.frz b o h1
      · exact hfz b o hb
    · have h1 : m r = some (b, z) := h1
      rw [h2] at h1; cases h1
  split at hc
  · rename_i x hp
    cases hc
    obtain ⟨g1, g2⟩ := hP.prim _ _ _ _ _ hp
    exact ⟨_, _, fn, c, rfl, hf, hb, g1, g2⟩
  cases hle : Nat.ble args.length fn.ntmps with
  | false => rw [hle] at hc; cases hc
  | true =>
  rw [hle] at hc
  simp only [cond_true] at hc
  have hle := Nat.le_of_ble_eq_true hle
  split at hc
  · rename_i s hr
    split at hc
    case h_2 => cases hc
    rename_i h' hd
    split at hc
    case h_2 => cases hc
    rename_i vs hres
    cases hc
    obtain ⟨g1, g2, g3, g4⟩ := hih _ _ _ _ hr
    have hl := runDefs_le hih _ _ _ hd
    refine ⟨_, _, fn, c, rfl, hf, hb, g1.trans hl, fun m w n cargs hR hA hF => ?_⟩
    refine callsIn_of_body hf hb trivial (wpIn_mono (g4 m _ w _ n hR ⟨args_rel hA hle, .nil⟩ rfl (hF.first hl.nx)) fun x a' w' hp => ?_)
    obtain ⟨m1, hx, hs, ha⟩ := hp
    cases hx
    exact ret_rel hP.names hih ha hs (Free.after hs hF) hd hres
  · rename_i s hr
    split at hc
    case h_2 => cases hc
    rename_i h' hd
    split at hc
    case h_2 => cases hc
    rename_i vs hres
    cases hc
    obtain ⟨g1, g2, g3, g4⟩ := hih _ _ _ _ hr
    have hl := runDefs_le hih _ _ _ hd
    refine ⟨_, _, fn, c, rfl, hf, hb, g1.trans hl, fun m w n cargs hR hA hF => ?_⟩
    refine callsIn_of_body hf hb trivial (wpIn_mono (g4 m _ w _ n hR ⟨args_rel hA hle, .nil⟩ rfl (hF.first hl.nx)) fun x a' w' hp => ?_)
    obtain ⟨m1, hx, hs, ha⟩ := hp
    cases hx
    exact ret_rel hP.names hih ha hs (Free.after hs hF) hd hres
  · rename_i pv s hr
    split at hc
    case h_2 => cases hc
    rename_i g cap dargs ds hds
    split at hc
    case h_2 => cases hc
    rename_i h1 hrec
    split at hc
    case h_2 => cases hc
    rename_i h' hd
    split at hc
    case h_2 => cases hc
    rename_i vs hres
    cases hc
    obtain ⟨g1, g2, g3, g4⟩ := hih _ _ _ _ hr
    have hl := runDefs_le hih _ _ _ hd
    obtain ⟨r1, ⟨fn', c', hf', hb'⟩, r3⟩ := recF_rel hih hrec
    refine ⟨_, _, fn, c, rfl, hf, hb, (g1.trans r1).trans hl, fun m w n cargs hR hA hF => ?_⟩
    refine callsIn_of_body hf hb trivial (wpIn_mono (g4 m _ w _ n hR ⟨args_rel hA hle, .nil⟩ rfl (hF.first (Nat.le_trans r1.nx hl.nx))) fun x a' w' hp => ?_)
    obtain ⟨m1, hx, hs, ha⟩ := hp
    cases hx with
    | panic hpv =>
    rename_i cpv
    have hds' := ha.ds
    have hF1 := Free.after hs hF
    show LeavesB Fence.wide n P fn a'.tmps _ a'.defers (.panicking [{ v := cpv, recovered := false }]) w'
    rw [hds] at hds'
    generalize a'.defers = dd at hds'
    cases hds' with
    | cons q hq =>
    cases q with
    | fn q1 q2 =>
      rename_i cds ccap cargs'
      refine ⟨by simp, .inr (.inr ⟨fun h => (by cases h), .func g, ccap, g, cargs' ++ ccap, rfl, ?_, fun _ _ => trivial, (r3 m1 w' (n - 1) (cargs' ++ ccap) cpv hs.rel hpv (by rw [Array.toList_append]; exact q2.append q1) (hF1.first hl.nx)).mono fun e' u' w2 hq2 => ?_⟩)⟩
      · show Sem.run P (callFunc g (cargs' ++ ccap)) w' = _
        exact callFunc_enter hf' (hP.names g fn' hf' (by rw [hb']; rfl)) hb' _ w'
      · obtain ⟨rfl, cv, m2, rfl, hs2⟩ := hq2
        show LeavesB Fence.wide n P fn a'.tmps _ cds .returning w2
        exact ret_rel' hP.names hih (ha.tm.mono hs2.le) (hq.mono hs2.le) (hs.trans hs2) (Free.after hs2 hF1) hd hres
  · cases hc
theorem panF_rel {ih : Code → St → Res} (hih : Sound P F ih) {f : FuncId} {args : List AV} {h h' : Hp} {v : AV} (hc : panF (Ctx.of P gl eqT) ih f args h = some (v, h')) :
    ∃ fn c, P.funcs[f]? = some fn ∧ fn.body = some c ∧ HpLe h h' ∧ ∀ m w n cargs, HRel P F m h w → LRel P F m args cargs.toList → Free m h h' →
      CallsIn Fence.wide n P f cargs w fun e w' => ∃ cv m', e = .panicked [{ v := cv, recovered := false }] ∧ Step P F m h h' w w' m' ∧ VRel P F m' v cv := by
  unfold panF at hc
  split at hc
  case h_2 => cases hc
  rename_i fn hf
  have hf := Ctx.of_fn hf
  split at hc
  case h_2 => cases hc
  rename_i c hb
  obtain ⟨hle, hc⟩ : Nat.ble args.length fn.ntmps = true ∧ _ := by
    cases hle : Nat.ble args.length fn.ntmps with
    | false => rw [hle] at hc; cases hc
    | true => rw [hle] at hc; exact ⟨rfl, hc⟩
  simp only [cond_true] at hc
  have hle := Nat.le_of_ble_eq_true hle
  split at hc
  case h_2 => cases hc
  rename_i pv s hr
  split at hc
  case h_2 => cases hc
  rename_i hds
  cases hc
  obtain ⟨g1, g2, g3, g4⟩ := hih _ _ _ _ hr
  refine ⟨fn, c, hf, hb, g1, fun m w n cargs hR hA hF => ?_⟩
  refine callsIn_of_body hf hb trivial (wpIn_mono (g4 m _ w _ n hR ⟨args_rel hA hle, .nil⟩ rfl hF) fun x a' w' hp => ?_)
  obtain ⟨m1, hx, hs, ha⟩ := hp
  cases hx with
  | panic hpv =>
  rename_i cpv
  have hds' := ha.ds
  show LeavesB Fence.wide n P fn a'.tmps _ a'.defers (.panicking [{ v := cpv, recovered := false }]) w'
  rw [hds] at hds'
  generalize a'.defers = dd at hds'
  cases hds'
  exact ⟨cpv, m1, rfl, hs, hpv⟩
end
end Go.Ax

/- Rounds of a loop over a function; calls of values and methods; every operation. -/
namespace Go.Ax
section
variable {P : Program} {F : Nat → Option Obj} {gl : Nat → AV} {eqT : Knob} {m : Loc}

theorem setParams_rel {n : Nat} : ∀ (ps : List Nat) (args : List AV) (cargs : List Value) (tm tm' : Tr AV) (t : Array Value), setParams tm ps args = some tm' → LRel P F m args cargs → (ps.all fun p => Nat.blt p n) = true → TRel P F m tm n t →
    ps.length = args.length ∧ TRel P F m tm' n ((ps.zip cargs).foldl (fun tmps (x : Nat × Value) => tmps.setIfInBounds x.1 x.2) t)
  | [], [], cargs, tm, tm', t, h, hl, _, ht => by
    cases hl.cases_nil; cases h
    exact ⟨rfl, ht⟩
  | p :: ps, v :: vs, cargs, tm, tm', t, h, hl, ha, ht => by
    obtain ⟨c, cs, rfl, h1, h2⟩ := hl.cases_cons
    simp only [List.all_cons, Bool.and_eq_true] at ha
    have hp : p < n := Nat.le_of_ble_eq_true ha.1
    obtain ⟨g1, g2⟩ := setParams_rel ps vs cs (tm.set p v) tm' (t.setIfInBounds p c) h h2 ha.2 (ht.put hp h1)
    exact ⟨by simp [g1], g2⟩
  | [], _ :: _, _, _, _, _, h, _, _, _ => by cases h
  | _ :: _, [], _, _, _, _, h, _, _, _ => by cases h

theorem run_getLoop {w : World} {b : Nat} {r : Loop} (h : w.heap[b]? = some (.loop r)) : (Instr.getLoop b).run P w = .ok r w := by
  unfold Instr.getLoop
  rw [Sem.run_bind, run_getObj h rfl]
  rfl
theorem run_yield {w : World} {b : Nat} {r : Loop} {args : Array Value} (h : w.heap[b]? = some (.loop r)) (hn : args.size = r.params.size) :
    (Instr.yield b args).run P w = .ok (.round b r.fn ((r.params.zip args).foldl (fun tmps (x : Nat × Value) => tmps.setIfInBounds x.1 x.2) r.tmps) r.assign r.body) w := by
  unfold Instr.yield
  rw [Sem.run_bind, run_getLoop h]
  simp only [Result.andThen, hn, ne_eq, not_true_eq_false, if_false]
  rfl
theorem run_beginRound {w : World} {b : Nat} {r : Loop} (h : w.heap[b]? = some (.loop r)) (hs : r.state = .ready) :
    (Instr.beginRound b).run P w = .ok () { w with heap := w.heap.setIfInBounds b (.loop { r with state := .busy }) } := by
  unfold Instr.beginRound
  rw [Sem.run_bind, run_getLoop h]
  simp only [Result.andThen, Sem.run_bind]
  rw [run_setObj h rfl]
  simp only [hs]
  rfl
theorem run_endRound {w : World} {b : Nat} {r : Loop} (h : w.heap[b]? = some (.loop r)) (jump : Option Code) :
    (Instr.endRound b jump).run P w = .ok (.bool jump.isNone) { w with heap := w.heap.setIfInBounds b (.loop { r with state := if jump.isNone then .ready else .done, pending := jump }) } := by
  unfold Instr.endRound
  rw [Sem.run_bind, run_getLoop h]
  simp only [Result.andThen, Sem.run_bind]
  rw [run_setObj h rfl]
  rfl

/-- What the caller of a function, or of 'yield', hears. -/
def Heard (P : Program) (F : Nat → Option Obj) (m : Loc) (h h' : Hp) (w : World) (v : AV) : Ending → World → Prop :=
  fun e w' => ∃ cv m', e = .returned cv ∧ Step P F m h h' w w' m' ∧ VRel P F m' v cv

theorem loop_at {h : Hp} {w : World} (hr : HRel P F m h w) {l b z n ds : Nat} {st : LoopState} {pd : Option Code} {tm : Tr AV} {ps : List Nat} {asn body : Code} (hg : h.get l = some (.loop st pd tm n ps asn body ds)) (hm : m l = some (b, z)) :
    ∃ fn tmps cds zd, w.heap[b]? = some (.loop { state := st, pending := pd, fn := fn, tmps := tmps, params := ps.toArray, assign := asn, body := body, defers := cds }) ∧ TRel P F m tm n tmps ∧ m ds = some (cds, zd) :=
  hr.obj l _ b z hg hm
theorem loop_put {h : Hp} {w : World} (hr : HRel P F m h w) {l b z n ds : Nat} {st st' : LoopState} {pd pd' : Option Code} {tm : Tr AV} {ps : List Nat} {asn body : Code} {fn : FuncId} {tmps : Array Value} {cds zd : Nat} (hg : h.get l = some (.loop st pd tm n ps asn body ds)) (hm : m l = some (b, z))
    (ht : TRel P F m tm n tmps) (hd : m ds = some (cds, zd)) :
    Step P F m h (h.put l (.loop st' pd' tm n ps asn body ds)) w { w with heap := w.heap.setIfInBounds b (.loop { state := st', pending := pd', fn := fn, tmps := tmps, params := ps.toArray, assign := asn, body := body, defers := cds }) } m :=
  Step.obj hr hg rfl hm ⟨fn, tmps, cds, zd, rfl, ht, hd⟩

theorem end_rel {h0 : Hp} {m0 m2 : Loc} {w0 w2 : World} {s2 : St} {l b z n ds : Nat} {pd : Option Code} {tm : Tr AV} {ps : List Nat} {asn body : Code} (hs : Step P F m0 h0 s2.h w0 w2 m2) (hg : s2.h.get l = some (.loop .busy pd tm n ps asn body ds)) (hm : m2 l = some (b, z)) (jump : Option Code) :
    ∃ v w', (Instr.endRound b jump).run P w2 = .ok v w' ∧ Heard P F m0 h0 (s2.h.put l (.loop (if jump.isNone then .ready else .done) jump tm n ps asn body ds)) w0 (.bool jump.isNone) (.returned v) w' := by
  obtain ⟨fn, tmps, cds, zd, h1, h2, h3⟩ := loop_at hs.rel hg hm
  exact ⟨_, _, run_endRound h1 jump, _, m2, rfl, hs.trans (loop_put hs.rel hg hm h2 h3), .bool _⟩

theorem yieldF_rel {ih : Code → St → Res} (hih : Sound P F ih) {l : Nat} {args : List AV} {h : Hp} {r : OpR} (hc : yieldF ih l args h = some r) :
    ∃ v h', r = .val v h' ∧ HpLe h h' ∧ ∀ m w n cargs b z, m l = some (b, z) → HRel P F m h w → LRel P F m args cargs.toList → Free m h h' →
      ∃ f tmps asn body, (Instr.yield b cargs).run P w = .ok (.round b f tmps asn body) w ∧ RoundIn Fence.wide n P b f tmps asn body w (Heard P F m h h' w v) := by
  unfold yieldF at hc
  split at hc
  case h_2 => cases hc
  rename_i pd tm n ps asn body ds hg
  split at hc
  · cases hc
  rename_i tm' htm
  cases hall : (ps.all fun p => Nat.blt p n) with
  | false => rw [hall] at hc; cases hc
  | true =>
  rw [hall] at hc
  simp only [cond_true] at hc
  split at hc
  case h_2 => cases hc
  rename_i s1 hr1
  split at hc
  case h_2 => cases hc
  rename_i pd2 tm2 n2 ps2 as2 b2 ds2 hg1
  split at hc
  case h_2 => cases hc
  rename_i e s2 hr2
  split at hc
  case h_2 => cases hc
  rename_i pd3 tm3 n3 ps3 as3 b3 ds3 hg2
  obtain ⟨a1, a2, a3, a4⟩ := hih _ _ _ _ hr1
  obtain ⟨b1, b2', b3', b4⟩ := hih _ _ _ _ hr2
  have hle : HpLe h s2.h := (a1.trans (HpLe.put hg1 _)).trans b1
  have main : ∀ (jump : Option Code) (v : AV), v = .bool jump.isNone →
      (∀ m x, XRel P F m e x → (x = .normal ∧ jump = none) ∨ (x = .ret ∧ jump = some .ret) ∨ (∃ id, x = .exit id ∧ jump = some (.exit id)) ∨ (∃ g, x = .goto g ∧ jump = some (.goto g))) →
      HpLe h (s2.h.put l (.loop (if jump.isNone then .ready else .done) jump tm3 n3 ps3 as3 b3 ds3)) ∧ ∀ m w k cargs b z, m l = some (b, z) → HRel P F m h w → LRel P F m args cargs.toList → Free m h (s2.h.put l (.loop (if jump.isNone then .ready else .done) jump tm3 n3 ps3 as3 b3 ds3)) →
      ∃ f tmps asn body, (Instr.yield b cargs).run P w = .ok (.round b f tmps asn body) w ∧ RoundIn Fence.wide k P b f tmps asn body w (Heard P F m h (s2.h.put l (.loop (if jump.isNone then .ready else .done) jump tm3 n3 ps3 as3 b3 ds3)) w v) := by
    intro jump v hv hx
    subst hv
    refine ⟨hle.trans (HpLe.put hg2 _), fun m w k cargs b z hm hr hA hF => ?_⟩
    have hF : Free m h s2.h := hF
    obtain ⟨fn, tmps, cds, zd, h1, h2, h3⟩ := loop_at hr hg hm
    obtain ⟨g1, g2⟩ := setParams_rel ps args cargs.toList tm tm' tmps htm hA hall h2
    have hsz : cargs.size = ps.toArray.size := by have := hA.len; simp at this; simp; omega
    have hfold : (ps.toArray.zip cargs).foldl (fun tmps (x : Nat × Value) => tmps.setIfInBounds x.1 x.2) tmps = (ps.zip cargs.toList).foldl (fun tmps (x : Nat × Value) => tmps.setIfInBounds x.1 x.2) tmps := by
      rw [← Array.foldl_toList]; simp [Array.toList_zip]
    refine ⟨fn, _, asn, body, run_yield h1 hsz, roundIn_of_wpIn trivial ?_⟩
    dsimp only
    rw [hfold]
    have hF1 : Free m h s1.h := hF.first b1.nx
    refine wpIn_mono (a4 m _ w (Fence.wide.inRound b) k hr ⟨g2, .nil⟩ ⟨b, z, hm, rfl⟩ hF1) fun x1 act1 w1 hp1 => ?_
    obtain ⟨m1, hx1, hs1, ha1⟩ := hp1
    cases hx1
    have hm1 := hs1.le _ _ hm
    obtain ⟨fn1, tmps1, cds1, zd1, h11, h12, h13⟩ := loop_at hs1.rel hg1 hm1
    have hst := loop_put (st' := .busy) (pd' := pd2) (fn := fn1) hs1.rel hg1 hm1 h12 h13
    have hs1' := hs1.trans hst
    have hb : body = body := rfl
    refine ⟨_, run_beginRound h11 rfl, ?_⟩
    have hF2 : Free m1 (s1.h.put l (.loop .busy pd2 tm2 n2 ps2 as2 b2 ds2)) s2.h := Free.after hs1' hF
    refine wpIn_mono (b4 m1 act1 _ (Fence.wide.inRound b) k hst.rel ⟨ha1.tm, ha1.ds⟩ (by rw [show ({ s1 with h := s1.h.put l (.loop .busy pd2 tm2 n2 ps2 as2 b2 ds2) } : St).rd = some l from a2]; exact ⟨b, z, hm1, rfl⟩) hF2) fun x2 act2 w2 hp2 => ?_
    obtain ⟨m2, hx2, hs2, ha2⟩ := hp2
    have hs := hs1'.trans hs2
    have hm2 := hs2.le _ _ hm1
    rcases hx m2 x2 hx2 with ⟨rfl, rfl⟩ | ⟨rfl, rfl⟩ | ⟨id, rfl, rfl⟩ | ⟨g, rfl, rfl⟩
    · exact end_rel hs hg2 hm2 none
    · exact end_rel hs hg2 hm2 (some .ret)
    · exact end_rel hs hg2 hm2 (some (.exit id))
    · exact end_rel hs hg2 hm2 (some (.goto g))
  split at hc
  · cases hc
    obtain ⟨g1, g2⟩ := main none _ rfl (fun m x hx => by cases hx; exact .inl ⟨rfl, rfl⟩)
    exact ⟨_, _, rfl, g1, g2⟩
  · cases hc
    obtain ⟨g1, g2⟩ := main (some .ret) _ rfl (fun m x hx => by cases hx; exact .inr (.inl ⟨rfl, rfl⟩))
    exact ⟨_, _, rfl, g1, g2⟩
  · rename_i id
    cases hc
    obtain ⟨g1, g2⟩ := main (some (.exit id)) _ rfl (fun m x hx => by cases hx; exact .inr (.inr (.inl ⟨_, rfl, rfl⟩)))
    exact ⟨_, _, rfl, g1, g2⟩
  · rename_i g
    cases hc
    obtain ⟨g1, g2⟩ := main (some (.goto g)) _ rfl (fun m x hx => by cases hx; exact .inr (.inr (.inr ⟨_, rfl, rfl⟩)))
    exact ⟨_, _, rfl, g1, g2⟩
  · cases hc

/-! ### What an operation sets off -/
/-- An operation's own run: a value, a call, a round. -/
def Acts (P : Program) (F : Nat → Option Obj) (m : Loc) (h h' : Hp) (w : World) (v : AV) (q : Sem Next) : Prop :=
  Does P F m h h' w v q ∨ (∃ f args, q.run P w = .ok (.enter f args) w ∧ ∀ n, CallsIn Fence.wide n P f args w (Heard P F m h h' w v)) ∨
    (∃ l f tmps asn body, q.run P w = .ok (.round l f tmps asn body) w ∧ ∀ n, RoundIn Fence.wide n P l f tmps asn body w (Heard P F m h h' w v))
theorem Acts.wp {h h' : Hp} {w : World} {v : AV} {o : Oper} {a : Act} {fe : Fence} {rd : Option Nat} {n : Nat} {K : Act → World → Prop} {Q : Exit → Act → World → Prop}
    (hd : Acts P F m h h' w v (execOp a.eval o)) (hnd : ∀ c, o.op ≠ .defer c) (hf : FenRel m rd fe)
    (hK : ∀ m' cv w', Step P F m h h' w w' m' → VRel P F m' v cv → K (a.put o.dst cv) w') : o.wpIn fe n P a w K Q := by
  rcases hd with hd | ⟨f, args, h1, h2⟩ | ⟨l, f, tmps, asn, body, h1, h2⟩
  · exact hd.wp hnd hf hK
  · refine ⟨fun f _ => hf.fn f, ?_⟩
    rw [Oper.semAt_eq _ _ _ hnd, h1]
    refine ⟨fun h => (by rw [hf.depth] at h; cases h), ?_⟩
    have h3 : CallsIn fe (n - 1) P f args w (Heard P F m h h' w v) := by
      cases rd with
      | none => cases hf; exact h2 _
      | some l => obtain ⟨_, _, _, rfl⟩ := hf; exact h2 _
    refine h3.mono fun e w' he => ?_
    obtain ⟨cv, m', rfl, g1, g2⟩ := he
    exact hK _ _ _ g1 g2
  · refine ⟨fun f _ => hf.fn f, ?_⟩
    rw [Oper.semAt_eq _ _ _ hnd, h1]
    refine ⟨fun h => (by rw [hf.depth] at h; cases h), ?_⟩
    have h3 : RoundIn fe (n - 1) P l f tmps asn body w (Heard P F m h h' w v) := by
      cases rd with
      | none => cases hf; exact h2 _
      | some l => obtain ⟨_, _, _, rfl⟩ := hf; exact h2 _
    refine h3.mono fun e w' he => ?_
    obtain ⟨cv, m', rfl, g1, g2⟩ := he
    exact hK _ _ _ g1 g2

/-- A function value called. -/
theorem applyF_rel (hP : POk P F gl eqT) {ih : Code → St → Res} (hih : Sound P F ih) {f : AV} {args : List AV} {h : Hp} {r : OpR} (hc : applyF (Ctx.of P gl eqT) ih f args h = some r) :
    ∃ v h', r = .val v h' ∧ HpLe h h' ∧ ∀ m w cf cargs, HRel P F m h w → VRel P F m f cf → LRel P F m args cargs.toList → Free m h h' →
      Acts P F m h h' w v (do let d ← Deferred.ofValue cf cargs; invoke d.target d.args) := by
  unfold applyF at hc
  split at hc
  · rename_i g first cap
    split at hc
    · rename_i v hx
      cases hc
      refine ⟨v, h, rfl, .refl _, fun m w cf cargs hr hf hA hF => ?_⟩
      obtain ⟨f', x, y, rfl, hfn, hx', hy'⟩ := hf.fn_inv
      cases hfn
      obtain ⟨cv, w', g1, g2, g3, g4⟩ := hP.ext _ _ _ hx m w ((x ++ cargs) ++ y) (by rw [Array.toList_append, Array.toList_append]; exact (hx'.append hA).append hy')
      exact .inl ⟨.value cv, cv, w', m, g1, .inl rfl, Step.refl hr g2 g3, g4⟩
    obtain ⟨v, h', fn, c, rfl, h1, h2, h3, h4⟩ := callF_rel hP hih hc
    refine ⟨v, h', rfl, h3, fun m w cf cargs hr hf hA hF => ?_⟩
    obtain ⟨f', x, y, rfl, hfn, hx, hy⟩ := hf.fn_inv
    cases hfn
    refine .inr (.inl ⟨g, (x ++ cargs) ++ y, ?_, fun n => h4 m w n _ hr ?_ hF⟩)
    · show Sem.run P (callFunc g ((x ++ cargs) ++ y)) w = _
      exact callFunc_enter h1 (hP.names g fn h1 (by rw [h2]; rfl)) h2 _ w
    · rw [Array.toList_append, Array.toList_append]
      exact (hx.append hA).append hy
  · rename_i l
    obtain ⟨v, h', rfl, h3, h4⟩ := yieldF_rel hih hc
    refine ⟨v, h', rfl, h3, fun m w cf cargs hr hf hA hF => ?_⟩
    obtain ⟨f', x, y, rfl, hfn, hx, hy⟩ := hf.fn_inv
    cases hfn with
    | yield hm =>
    rename_i b z
    have hx0 : x = #[] := by have := hx.cases_nil; simpa using this
    subst hx0
    obtain ⟨f, tmps, asn, body, g1, _⟩ := h4 m w 0 cargs b z hm hr hA hF
    refine .inr (.inr ⟨b, f, tmps, asn, body, ?_, fun n => ?_⟩)
    · show Sem.run P (Instr.yield b (#[] ++ cargs)) w = _
      rw [Array.empty_append]; exact g1
    · obtain ⟨f2, tmps2, asn2, body2, g3, g4⟩ := h4 m w n cargs b z hm hr hA hF
      rw [g1] at g3; cases g3
      exact g4
  · cases hc
end
end Go.Ax

/- Every operation. -/
namespace Go.Ax
section
variable {P : Program} {F : Nat → Option Obj} {gl : Nat → AV} {eqT : Knob} {m : Loc}

theorem run_method {t : TypeId} {i : TypeInfo} {mt : _} {name : String} {f : FuncId} {p : Bool} {d : TypeDesc} {v : Value} {w : World} {k : Nat} (hi : P.info? t = some i) (hd : P.underlying t = some d) (hm : i.methods.find? (·.name == name) = some mt) (hp : mt.path = #[])
    (hf : mt.func = some (f, p)) (hk : (p = true ∧ ∃ e, d = .pointer e) ∨ (p = false ∧ ∀ e, d ≠ .pointer e)) : (method (k + 1) t v name).run P w = .ok (f, v) w := by
  unfold method
  have h1 : (typeInfo t).run P w = .ok i w := by simp [typeInfo, hi]
  rw [Sem.run_bind, h1]
  simp only [Result.andThen, hm, hp, follow, Sem.run_bind, Sem.run_pure, hf]
  have h2 : (receiverAt t (.val v) p (if (#[] : Array FieldStep).isEmpty = true then some ((name.splitOn ".").getLastD name) else none)).run P w = .ok v w := by
    unfold receiverAt
    rw [Sem.run_bind, run_underlying hd]
    rcases hk with ⟨rfl, e, rfl⟩ | ⟨rfl, hk⟩
    · rfl
    · cases d <;> first | rfl | exact absurd rfl (hk _)
  rw [h2]

theorem methodA_rel {t : TypeId} {name : String} {f : FuncId} {v : Value} {w : World} (h : methodA P (Ctx.of P gl eqT) t name = some f) : (method (P.types.size + Made.depth) t v name).run P w = .ok (f, v) w := by
  unfold methodA at h
  split at h
  case h_2 => cases h
  rename_i i ti hi hti
  have hd := ti_underlying hti
  split at h
  case h_2 => cases h
  rename_i mt hm
  obtain ⟨hp, h⟩ : mt.path.isEmpty = true ∧ _ := by
    cases hp : mt.path.isEmpty with
    | false => rw [hp] at h; cases h
    | true => rw [hp] at h; exact ⟨rfl, h⟩
  simp only [cond_true] at h
  have hp : mt.path = #[] := by simpa using hp
  have hpos : 0 < Made.depth := by decide
  have hn : P.types.size + Made.depth = (P.types.size + Made.depth - 1) + 1 := by omega
  rw [hn]
  split at h
  · rename_i g e hf hdesc
    cases h
    exact run_method hi hd hm hp hf (.inl ⟨rfl, _, hdesc⟩)
  · cases h
  · cases h
  · rename_i g hf hne
    cases h
    exact run_method hi hd hm hp hf (.inr ⟨rfl, fun e he => hne _ he⟩)
  · cases h

theorem nilif_eq (hE : EqOk P eqT) {op : BinOp} {t : TypeId} {ox oy : Operand} {w : World} {ti : TI} {ms : _} (ht : (Ctx.of P gl eqT).ti t = some ti) (hd : ti.desc = .interface ms) (hc : (isConstA ox || isConstA oy) = true) (hop : op = .eql ∨ op = .neq) :
    (do eqGuard op t ox oy .nilIface .nilIface; binOp op t .nilIface .nilIface : Sem Value).run P w = .ok (.bool (op == .eql)) w := by
  have hu := ti_underlying ht
  rw [hd] at hu
  have h1 : (eqGuard op t ox oy .nilIface .nilIface).run P w = .ok () w := by
    unfold eqGuard
    rcases hop with rfl | rfl <;> cases ox <;> cases oy <;> first | rfl | cases hc
  have h2 : (Op.equalIn Op.maxDepth t .nilIface .nilIface).run P w = .ok true w := by
    refine eqA_rel (gl := gl) (F := fun _ => none) (m := ⟨fun _ => none, fun _ => none⟩) hE w 1 t .nilif .nilif true ?_ _ _ .nilif .nilif _ (by decide)
    unfold eqA eqStep
    rw [ht]
    simp only [hd]
  have h3 := binOp_eql (t := t) (cx := .nilIface) (cy := .nilIface) (by rintro ⟨_, _, _, _, h, _⟩; cases h) (by rintro ⟨_, _, h, _⟩; cases h) nofun nofun
  rw [Sem.run_bind, h1]
  simp only [Result.andThen]
  rcases hop with rfl | rfl
  · rw [h3.1, Sem.run_bind]
    unfold Op.equal
    rw [h2]; rfl
  · rw [h3.2, Sem.run_bind]
    unfold Op.equal
    rw [h2]; rfl

theorem invoke_rel (hP : POk P F gl eqT) {ih : Code → St → Res} (hih : Sound P F ih) {x : AV} {name : String} {t : TypeId} {f : FuncId} {args : List AV} {h : Hp} {r : OpR} (hm : methodA P (Ctx.of P gl eqT) t name = some f)
    (hc : callF (Ctx.of P gl eqT) ih f (x :: args) h = some r) :
    ∃ v h', r = .val v h' ∧ HpLe h h' ∧ ∀ m w cx cargs, HRel P F m h w → VRel P F m x cx → LRel P F m args cargs.toList → Free m h h' →
      Acts P F m h h' w v (invoke (.fn (.method name) #[]) (#[.iface t cx] ++ cargs)) := by
  obtain ⟨v, h', fn, c, rfl, h1, h2, h3, h4⟩ := callF_rel hP hih hc
  refine ⟨v, h', rfl, h3, fun m w cx cargs hr hx hA hF => ?_⟩
  refine .inr (.inl ⟨f, #[cx] ++ cargs, ?_, fun n => h4 m w n _ hr ?_ hF⟩)
  · have e1 : (#[Value.iface t cx] ++ cargs)[0]? = some (.iface t cx) := by simp [Array.getElem?_append_left]
    have e2 : (#[Value.iface t cx] ++ cargs).extract 1 (#[Value.iface t cx] ++ cargs).size = cargs := by
      apply Array.ext'
      simp
    show Sem.run P (invoke (.fn (.method name) #[]) (#[.iface t cx] ++ cargs)) w = _
    unfold invoke
    simp only [e1, e2]
    show Sem.run P (callMethod (.iface t cx) name cargs) w = _
    unfold callMethod
    simp only [Sem.run_bind]
    have hpr : Sem.run P program w = .ok P w := rfl
    rw [hpr]
    simp only [Result.andThen]
    rw [methodA_rel hm]
    exact callFunc_enter h1 (hP.names f fn h1 (by rw [h2]; rfl)) h2 _ w
  · rw [Array.toList_append]
    exact .cons hx hA

theorem opA_nd {ih : Code → St → Res} {s : St} {o : Oper} {r : OpR} (ho : opA P (Ctx.of P gl eqT) ih s o = some r) (hr : ∀ d, r ≠ .push d) : ∀ c, o.op ≠ .defer c := by
  intro c hc
  unfold opA at ho
  rw [hc] at ho
  dsimp only at ho
  split at ho
  · unfold deferA at ho
    split at ho
    · cases ho; exact hr _ rfl
    · cases ho
  · unfold deferC at ho
    split at ho
    · cases ho; exact hr _ rfl
    · cases ho
  · cases ho
theorem opA_push {ih : Code → St → Res} {s : St} {o : Oper} {d : ADef} {c : _} (hop : o.op = .defer c) (ho : opA P (Ctx.of P gl eqT) ih s o = some (.push d)) :
    (∃ f g first cap, c.callee = .value f ∧ s.ev (Ctx.of P gl eqT) f = .fn (.func g) first cap ∧ d = .fn (.func g) cap (first ++ allA (Ctx.of P gl eqT) s c.args.toList)) ∨
    ∃ t l x, c.callee = .builtin .clear ∧ c.argTypes.toList = t :: l ∧ allA (Ctx.of P gl eqT) s c.args.toList = [x] ∧ d = .clr t x := by
  unfold opA at ho
  rw [hop] at ho
  dsimp only at ho
  split at ho
  · rename_i f hcal
    unfold deferA at ho
    split at ho
    · rename_i g first cap hf
      cases ho
      exact .inl ⟨f, g, first, cap, hcal, hf, rfl⟩
    · cases ho
  · rename_i hcal
    unfold deferC at ho
    split at ho
    · rename_i t l x h1 h2
      cases ho
      exact .inr ⟨t, l, x, hcal, h1, h2, rfl⟩
    · cases ho
  · cases ho
theorem makeMap_run {t kt e : TypeId} {ti : TI} {w : World} (ht : (Ctx.of P gl eqT).ti t = some ti) (hd : ti.desc = .map kt e) {rs : Option Value} (hrs : ∀ v, rs = some v → ∃ k n, v = .int k n) :
    (Instr.makeMap t rs).run P w = .ok (.map (some w.heap.size)) { w with heap := w.heap.push (.map #[] 0) } := by
  have hu := ti_underlying ht
  rw [hd] at hu
  cases rs with
  | none => rfl
  | some v =>
    obtain ⟨k, n, rfl⟩ := hrs v rfl
    simp only [Instr.makeMap, Sem.run_bind, run_underlying hu, Result.andThen_ok]
    rfl
theorem opA_rel (hP : POk P F gl eqT) {ih : Code → St → Res} (hih : Sound P F ih) {s : St} {o : Oper} {r : OpR} (ho : opA P (Ctx.of P gl eqT) ih s o = some r) (hnd : ∀ c, o.op ≠ .defer c) :
    ∃ v h', r = .val v h' ∧ HpLe s.h h' ∧ (∀ c, o.op ≠ .defer c) ∧ ∀ m (a : Act) w, HRel P F m s.h w → TRel P F m s.tm s.n a.tmps → Free m s.h h' → Acts P F m s.h h' w v (execOp a.eval o) := by
  unfold opA at ho
  unfold execOp
  cases hop : o.op <;> simp only [hop] at ho ⊢
  case move x => cases ho; exact ⟨_, _, rfl, .refl _, nofun, fun m a w hr ht hF => .inl ⟨_, _, w, m, rfl, .inl rfl, Step.refl hr rfl (SameOut.refl w), ev_rel hP ht x⟩⟩
  case assign x => cases ho; exact ⟨_, _, rfl, .refl _, nofun, fun m a w hr ht hF => .inl ⟨_, _, w, m, rfl, .inl rfl, Step.refl hr rfl (SameOut.refl w), ev_rel hP ht x⟩⟩
  case pick c a b =>
    split at ho
    case h_2 => cases ho
    rename_i t hc
    cases ho
    refine ⟨_, _, rfl, .refl _, nofun, fun m act w hr ht hF => ?_⟩
    have h1 := ev_rel hP ht c
    rw [hc] at h1
    have h2 := h1.bool_inv
    refine .inl ⟨.value (if t then act.eval a else act.eval b), _, w, m, ?_, .inl rfl, Step.refl hr rfl (SameOut.refl w), ?_⟩
    · rw [h2]; simp [asBool]
    · cases t
      · exact ev_rel hP ht b
      · exact ev_rel hP ht a
  case alloc t =>
    obtain ⟨y, h1, rfl⟩ := ov_some ho
    exact ⟨_, _, rfl, alloc_le h1, nofun, fun m a w hr ht hF => .inl (.ofV (alloc_rel h1 hr hF))⟩
  case box t x =>
    obtain ⟨y, h1, rfl⟩ := ov_some ho
    exact ⟨_, _, rfl, box_le h1, nofun, fun m a w hr ht hF => .inl (.ofV (box_rel h1 (ev_rel hP ht x) hr hF))⟩
  case build t ps =>
    obtain ⟨y, h1, rfl⟩ := ov_some ho
    exact ⟨_, _, rfl, .refl _, nofun, fun m a w hr ht hF => .inl (.pureV hr (build_rel h1 (PRel.map (ev_rel hP ht) ps)))⟩
  case buildSlice t n ps =>
    obtain ⟨y, h1, rfl⟩ := ov_some ho
    exact ⟨_, _, rfl, buildSlice_le h1, nofun, fun m a w hr ht hF => .inl (.ofV (buildSlice_rel h1 (PRel.map (ev_rel hP ht) ps) hr hF))⟩
  case load t x =>
    obtain ⟨y, h1, rfl⟩ := ov_some ho
    exact ⟨_, _, rfl, .refl _, nofun, fun m a w hr ht hF => .inl (.pureV hr (loadAt_rel h1 (ev_rel hP ht x) hr))⟩
  case store t x y =>
    obtain ⟨y', h1, rfl⟩ := ov_some ho
    exact ⟨_, _, rfl, storeAt_le h1, nofun, fun m a w hr ht hF => .inl (.ofU (storeAt_rel h1 (ev_rel hP ht x) (ev_rel hP ht y) hr))⟩
  case nilCheck x =>
    split at ho
    · rename_i r' o' hx
      cases ho
      refine ⟨_, _, rfl, .refl _, nofun, fun m a w hr ht hF => ?_⟩
      have h1 := ev_rel hP ht x
      rw [hx] at h1
      obtain ⟨b, z, hm, h2⟩ := h1.ptr_inv
      rw [h2]
      exact .inl ⟨_, _, w, m, rfl, .inl rfl, Step.refl hr rfl (SameOut.refl w), .ptr hm⟩
    · rename_i xs i o' hx
      cases ho
      refine ⟨_, _, rfl, .refl _, nofun, fun m a w hr ht hF => ?_⟩
      have h1 := ev_rel hP ht x
      rw [hx] at h1
      generalize a.eval x = cx at h1
      cases h1 with
      | iptr es f hF hi' hes hf hc => exact .inl ⟨_, _, w, m, rfl, .inl rfl, Step.refl hr rfl (SameOut.refl w), .iptr es f hF hi' hes hf hc⟩
    · rename_i f p q hx
      cases ho
      refine ⟨_, _, rfl, .refl _, nofun, fun m a w hr ht hF => ?_⟩
      have h1 := ev_rel hP ht x
      rw [hx] at h1
      obtain ⟨f', u, v, h2, hf, hu, hv⟩ := h1.fn_inv
      rw [h2] at h1 ⊢
      cases hf
      exact .inl ⟨_, _, w, m, rfl, .inl rfl, Step.refl hr rfl (SameOut.refl w), h1⟩
    · rename_i f p q hx
      cases ho
      refine ⟨_, _, rfl, .refl _, nofun, fun m a w hr ht hF => ?_⟩
      have h1 := ev_rel hP ht x
      rw [hx] at h1
      obtain ⟨f', u, v, h2, hf, hu, hv⟩ := h1.fn_inv
      rw [h2] at h1 ⊢
      cases hf
      exact .inl ⟨_, _, w, m, rfl, .inl rfl, Step.refl hr rfl (SameOut.refl w), h1⟩
    · cases ho
  case binOp op t x y z =>
    split at ho
    · rename_i hx hy
      split at ho
      · rename_i ti hc hti
        split at ho
        case h_2 => cases ho
        rename_i ms hd
        cases ho
        refine ⟨_, _, rfl, .refl _, nofun, fun m a w hr ht hF => ?_⟩
        have h1 := ev_rel hP ht x
        have h2 := ev_rel hP ht y
        rw [hx] at h1
        rw [hy] at h2
        rw [h1.nilif_inv, h2.nilif_inv]
        exact .inl (.pureV hr ⟨_, nilif_eq hP.eq hti hd hc (.inl rfl), .bool _⟩)
      · rename_i ti hc hti
        split at ho
        case h_2 => cases ho
        rename_i ms hd
        cases ho
        refine ⟨_, _, rfl, .refl _, nofun, fun m a w hr ht hF => ?_⟩
        have h1 := ev_rel hP ht x
        have h2 := ev_rel hP ht y
        rw [hx] at h1
        rw [hy] at h2
        rw [h1.nilif_inv, h2.nilif_inv]
        exact .inl (.pureV hr ⟨_, nilif_eq hP.eq hti hd hc (.inr rfl), .bool _⟩)
      · cases ho
    · obtain ⟨y', h1, rfl⟩ := ov_some ho
      exact ⟨_, _, rfl, .refl _, nofun, fun m a w hr ht hF => .inl (.pureV hr (binOpA_rel hP.eq h1 (ev_rel hP ht x) (ev_rel hP ht y)))⟩
  case unOp op t x =>
    obtain ⟨y, h1, rfl⟩ := ov_some ho
    exact ⟨_, _, rfl, .refl _, nofun, fun m a w hr ht hF => .inl (.pureV hr (unOpA_rel h1 (ev_rel hP ht x)))⟩
  case convert p q x =>
    cases hsl : isSlice (s.ev (Ctx.of P gl eqT) x) with
    | true =>
      rw [hsl, cond_true] at ho
      obtain ⟨y, h1, rfl⟩ := ov_some ho
      exact ⟨_, _, rfl, .refl _, nofun, fun m a w hr ht hF => .inl (.pureV hr (convB_rel hsl h1 (ev_rel hP ht x) hr))⟩
    | false =>
      rw [hsl, cond_false] at ho
      obtain ⟨y, h1, rfl⟩ := ov_some ho
      exact ⟨_, _, rfl, .refl _, nofun, fun m a w hr ht hF => .inl (.pureV hr (convA_rel h1 (ev_rel hP ht x)))⟩
  case range t x =>
    obtain ⟨y, h1, rfl⟩ := ov_some ho
    exact ⟨_, _, rfl, rangeA_le h1, nofun, fun m a w hr ht hF => .inl (.ofV (rangeA_rel h1 (ev_rel hP ht x) hr hF))⟩
  case next x str =>
    cases str with
    | true =>
      rw [cond_true] at ho
      obtain ⟨y, h1, rfl⟩ := ov_some ho
      refine ⟨_, _, rfl, nextA_le h1, nofun, fun m a w hr ht hF => .inl (.ofV ?_)⟩
      obtain ⟨cv, w', q1, q2, q3⟩ := nextA_rel (ty := o.type) h1 (ev_rel hP ht x) hr
      exact ⟨cv, w', m, q1, q2, q3⟩
    | false =>
      rw [cond_false] at ho
      obtain ⟨y, h1, rfl⟩ := ov_some ho
      refine ⟨_, _, rfl, nextM_le h1, nofun, fun m a w hr ht hF => .inl (.ofV ?_)⟩
      obtain ⟨cv, w', q1, q2, q3⟩ := nextM_rel (ty := o.type) h1 (ev_rel hP ht x) hr
      exact ⟨cv, w', m, q1, q2, q3⟩
  case entry x =>
    obtain ⟨y, h1, rfl⟩ := ov_some ho
    exact ⟨_, _, rfl, .refl _, nofun, fun m a w hr ht hF => .inl (.pureV hr (entryM_rel h1 (ev_rel hP ht x) hr))⟩
  case mapEntry t x k =>
    obtain ⟨y, h1, rfl⟩ := ov_some ho
    refine ⟨_, _, rfl, mapEntryA_le h1, nofun, fun m a w hr ht hF => .inl (.ofV ?_)⟩
    obtain ⟨cv, w', q1, q2, q3⟩ := mapEntryA_rel hP.eq h1 (ev_rel hP ht x) (ev_rel hP ht k) hr
    exact ⟨cv, w', m, q1, q2, q3⟩
  case entryStore t x st y =>
    obtain ⟨y', h1, rfl⟩ := ov_some ho
    exact ⟨_, _, rfl, entryStoreA_le h1, nofun, fun m a w hr ht hF => .inl (.ofU (entryStoreA_rel h1 (ev_rel hP ht x) (ev_rel hP ht st) (ev_rel hP ht y) hr))⟩
  case defer c => exact absurd hop (hnd c)
  case makeInterface t x =>
    split at ho
    case h_2 => cases ho
    rename_i ti hti
    split at ho
    · cases ho
    rename_i hd
    cases ho
    refine ⟨_, _, rfl, .refl _, nofun, fun m a w hr ht hF => .inl (.pureV hr ⟨.iface t (a.eval x), ?_, .iface t (ev_rel hP ht x)⟩)⟩
    have hu := ti_underlying hti
    unfold Instr.makeInterface
    rw [Sem.run_bind, run_underlying hu]
    simp only [Result.andThen]
    rfl
  case makeFunc f p q =>
    split at ho
    case h_2 => cases ho
    rename_i g
    cases ho
    refine ⟨_, _, rfl, .refl _, nofun, fun m a w hr ht hF => .inl (.pureV hr ⟨_, rfl, ?_⟩)⟩
    have h1 := allA_arr (C := Ctx.of P gl eqT) (ev_rel hP ht) p
    have h2 := allA_arr (C := Ctx.of P gl eqT) (ev_rel hP ht) q
    exact .fn (.func g) (by have := h1.len; simpa using this) (fun i x y hx hy => h1.at' i x y hx (by simpa using hy)) (by have := h2.len; simpa using this) (fun i x y hx hy => h2.at' i x y hx (by simpa using hy))
  case makeMap t rs =>
    split at ho
    case h_2 => cases ho
    rename_i n0 ti hn0 hti
    split at ho
    case h_2 => cases ho
    rename_i kt0 et0 hd0
    cases ho
    refine ⟨_, _, rfl, .new _ _, nofun, fun m a w hr ht hF => .inl (.ofV ⟨_, _, _, makeMap_run hti hd0 (fun v hv => by
      cases rs with
      | none => cases hv
      | some x =>
        have hv' : a.eval x = v := Option.some.inj hv
        subst hv'
        have hx := ev_rel hP ht x
        revert hn0
        cases hxv : s.ev (Ctx.of P gl eqT) x with
        | int k n => rw [hxv] at hx; intro _; exact ⟨k, n, hx.int_inv⟩
        | _ => intro hn0; simp only [hxv] at hn0; cases hn0), Step.alloc hr (hF _ (Nat.le_refl _) (Nat.lt_succ_self _)) (z := 0) rfl ⟨rfl, rfl, rfl⟩ ⟨#[], rfl, rfl, fun i x y h _ => by simp at h⟩, .map (Loc.put_same _ _ _ _)⟩)⟩
  case makeSlice t l c =>
    obtain ⟨y, h1, rfl⟩ := ov_some ho
    exact ⟨_, _, rfl, makeSlice_le h1, nofun, fun m a w hr ht hF => .inl (.ofV (makeSlice_rel h1 (ev_rel hP ht l) (ev_rel hP ht c) hr hF))⟩
  case slice t x lo hi mx =>
    obtain ⟨y, h1, rfl⟩ := ov_some ho
    exact ⟨_, _, rfl, .refl _, nofun, fun m a w hr ht hF => .inl (.pureV hr (sliceOf_rel h1 (ev_rel hP ht x) (OVRel.map (ev_rel hP ht) lo) (OVRel.map (ev_rel hP ht) hi) (OVRel.map (ev_rel hP ht) mx) hr))⟩
  case fieldAddr t x k =>
    obtain ⟨y, h1, rfl⟩ := ov_some ho
    exact ⟨_, _, rfl, .refl _, nofun, fun m a w hr ht hF => .inl (.pureV hr (fieldAt_rel h1 (ev_rel hP ht x)))⟩
  case field t x k =>
    obtain ⟨y, h1, rfl⟩ := ov_some ho
    exact ⟨_, _, rfl, .refl _, nofun, fun m a w hr ht hF => .inl (.pureV hr (fieldOf_rel h1 (ev_rel hP ht x)))⟩
  case indexAddr t x i =>
    obtain ⟨y, h1, rfl⟩ := ov_some ho
    exact ⟨_, _, rfl, .refl _, nofun, fun m a w hr ht hF => .inl (.pureV hr (indexAt_rel h1 (ev_rel hP ht x) (ev_rel hP ht i)))⟩
  case index t x i =>
    obtain ⟨y, h1, rfl⟩ := ov_some ho
    exact ⟨_, _, rfl, .refl _, nofun, fun m a w hr ht hF => .inl (.pureV hr (indexOf_rel h1 (ev_rel hP ht x) (ev_rel hP ht i)))⟩
  case lookup t x k ok =>
    obtain ⟨y, h1, rfl⟩ := ov_some ho
    exact ⟨_, _, rfl, .refl _, nofun, fun m a w hr ht hF => .inl (.pureV hr (lookupA_rel hP.eq h1 (ev_rel hP ht x) (ev_rel hP ht k) hr))⟩
  case mapUpdate t x k y =>
    obtain ⟨y', h1, rfl⟩ := ov_some ho
    exact ⟨_, _, rfl, mapPut_le h1, nofun, fun m a w hr ht hF => .inl (.ofU (mapPut_rel hP.eq h1 (ev_rel hP ht x) (ev_rel hP ht k) (ev_rel hP ht y) hr))⟩
  case insert t x k y =>
    obtain ⟨y', h1, rfl⟩ := ov_some ho
    exact ⟨_, _, rfl, mapPut_le h1, nofun, fun m a w hr ht hF => .inl (.ofU (mapPut_rel hP.eq h1 (ev_rel hP ht x) (ev_rel hP ht k) (ev_rel hP ht y) hr))⟩
  case typeAssert x xt t ok =>
    obtain ⟨y, h1, rfl⟩ := ov_some ho
    exact ⟨_, _, rfl, .refl _, nofun, fun m a w hr ht hF => .inl (.pureV hr (typeAssertA_rel h1 (ev_rel hP ht x)))⟩
  case extract x i =>
    split at ho
    case h_2 => cases ho
    rename_i vs hx
    obtain ⟨y, h1, rfl⟩ := ov_some ho
    refine ⟨_, _, rfl, .refl _, nofun, fun m a w hr ht hF => ?_⟩
    have h2 := ev_rel hP ht x
    rw [hx] at h2
    obtain ⟨c, h3, h4⟩ := LRel.of_tup h2
    rw [h3]
    obtain ⟨cv, h5, h6⟩ := h4.get h1
    rw [Array.getElem?_toList] at h5
    exact .inl (.pureV hr ⟨cv, by simp [Instr.extract, h5], h6⟩)
  case call c =>
    unfold resolve
    cases hcal : c.callee with
    | value f =>
      simp only [hcal] at ho ⊢
      obtain ⟨v, h', rfl, h1, h2⟩ := applyF_rel hP hih ho
      exact ⟨v, h', rfl, h1, nofun, fun m a w hr ht hF => h2 m w _ _ hr (ev_rel hP ht f) (allA_arr (ev_rel hP ht) c.args) hF⟩
    | invoke rc name =>
      simp only [hcal] at ho ⊢
      split at ho
      case h_2 => cases ho
      rename_i t x hx
      split at ho
      case h_2 => cases ho
      rename_i f hm
      obtain ⟨v, h', rfl, h1, h2⟩ := invoke_rel hP hih hm ho
      refine ⟨v, h', rfl, h1, nofun, fun m a w hr ht hF => ?_⟩
      have h3 := ev_rel hP ht rc
      rw [hx] at h3
      obtain ⟨y, h4, h5⟩ := h3.iface_inv
      rw [h4]
      exact h2 m w y _ hr h5 (allA_arr (ev_rel hP ht) c.args) hF
    | builtin b =>
      simp only [hcal] at ho ⊢
      have key := builtinA_val ho
      obtain ⟨v, h', rfl⟩ := key
      refine ⟨v, h', rfl, builtinA_le ho, nofun, fun m a w hr ht hF => ?_⟩
      obtain ⟨v2, h2, h3, h4⟩ := builtinA_rel hP.eq (ty := o.type) (cn := c.args.map fun | .const _ => true | _ => false) ho (allA_arr (ev_rel hP ht) c.args) hr (fun h'' ⟨v'', e⟩ => by cases e; exact hF)
      cases h3
      exact .inl h4
  all_goals cases ho
end
end Go.Ax
