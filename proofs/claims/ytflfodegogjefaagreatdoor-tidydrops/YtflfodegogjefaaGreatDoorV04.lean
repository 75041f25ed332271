import Derived.Test.YtflfodegogjefaaGreatDoorV03
set_option linter.unusedSimpArgs false
set_option linter.unusedVariables false
noncomputable section
namespace Go.Ax
open Go.Proofs
attribute [local irreducible] TW TO CallsT q0y
variable {F : Nat → Option Obj} {gl : Nat → AV} {K : Knob}
theorem may_qt (hP : POk Tryz.prog F gl K) (h : Hp) (t : Sl LType) (k : Nat) (v : AV) (sz : List Int) (hr : RdI h v sz) (hk : k < t.list.length) (hsz : sz.length = k) (hs : ∀ n ∈ sz, 0 ≤ n ∧ n ≤ 1000) (hlt : t.list.length < 1000000) (hp : ∀ x ∈ t.list, x.parts.list.length < 900000) :
    Qt Tryz.prog F h (.tup [.int .i64 (mayS t.list k sz).1, .bool (mayS t.list k sz).2]) z0D [t.av LType.cells, .int .i64 (k : Nat), v] := by
  obtain ⟨x, hx⟩ : ∃ x, t.list[k]? = some x := ⟨_, List.getElem?_eq_getElem hk⟩
  have hpx := hp x (List.mem_of_getElem? hx)
  have hav := q0z (e := LType.cells) (show 0 < t.list.length by omega)
  have hw0 := Wid.refl h
  refine CallsT.body hP q0e E_types_may rfl rfl ?_
  refine TW.seq (TW.reg hP (by simp <;> rfl) ?_)
  dsimp only [goK, q0a, q0f, q0d]
  refine TW.seq (TW.reg hP (by simp [hx, hav] <;> rfl) ?_)
  dsimp only [goK, q0a, q0f, q0d]
  refine TW.seq (TW.reg hP (by simp <;> rfl) ?_)
  dsimp only [goK, q0a, q0f, q0d]
  refine TO.scall hP I_types_plain (plain_pure hP x) (by simp) rfl rfl rfl rfl ?_
  refine TO.runs hP (by simp <;> rfl) ?_
  dsimp only [goK, q0a, q0f, q0d]
  refine TW.gen (fun g => g.get h.nx = some (.cells q7e [t.av LType.cells]) ∧ g.get (h.nx + 1) = some (.cells q1W x.cells) ∧ g.nx = h.nx + 2 ∧ Wid h g) ⟨by simp [hav], by simp, by simp, by (repeat' first | exact Wid.refl _ | refine Wid.new ?_ _ | refine Wid.put ?_ (by simp) _)⟩ fun g hg => ?_
  obtain ⟨g1, g2, g3, g4⟩ := hg
  dsimp only [q7e, q1W] at g1 g2
  rw [hav] at g1
  simp only [LType.cells] at g2
  cases hpl : q2E x with
  | false =>
    by_cases h1 : x.kind = 1
    · repeat' first | refine TW.seq ?_ | refine TW.block ?_ | refine TW.skip ?_ | refine TW.condT hP rfl ?_ | (refine TW.reg hP (by simp [h1, g2] <;> rfl) ?_; dsimp only [goK]) | simp only [q0a]
      refine TW.ret ⟨.inr rfl, _, _, rfl, rfl, ?_⟩
      refine ⟨?_, ?_⟩
      · simp [q0h, mayS, hx, h1, hpl]
      · repeat' first | exact g4
    · by_cases h2 : x.kind = 2
      · repeat' first | refine TW.seq ?_ | refine TW.block ?_ | refine TW.condT hP rfl ?_ | refine TW.condF hP rfl ?_ | (refine TW.reg hP (by simp [h2, g1, g2] <;> rfl) ?_; dsimp only [goK]) | (refine TO.left ?_ rfl rfl ?_; (focus (simp; done)); refine TO.runs hP (by simp <;> rfl) ?_; dsimp only [goK]) | simp only [q0a]
        refine TW.ret ⟨.inr rfl, _, _, rfl, rfl, ?_⟩
        refine ⟨?_, ?_⟩
        · simp [q0h, mayS, hx, h2, hpl]
        · repeat' first | exact g4
      · by_cases h3 : x.kind = 3
        · obtain ⟨v', k', happ, hrd, hget, hnx⟩ := app_lit (h := g.new (.cells q0C [.int .i64 x.elem])) (q0Q (gl := gl) (K := K)) (q := g.nx) (x := x.elem) (by simp) (by simp) (rdI_av _ x.parts) (by omega)
          dsimp only [q0u, q0C] at happ
          rw [g3] at happ
          repeat' first | refine TW.seq ?_ | refine TW.block ?_ | refine TW.condT hP rfl ?_ | refine TW.condF hP rfl ?_ | (refine TW.reg hP (by simp [h3, g2, g3, happ] <;> rfl) ?_; dsimp only [goK]) | (refine TO.left ?_ rfl rfl ?_; (focus (simp; done)); refine TO.runs hP (by simp <;> rfl) ?_; dsimp only [goK]) | simp only [q0a]
          refine TW.ret ⟨.inr rfl, _, _, rfl, rfl, ?_⟩
          refine ⟨?_, ?_⟩
          · simp [q0h, mayS, hx, h3, hpl]
          · exact Wid.trans (g4.new _) ⟨hnx, hget⟩
        · by_cases h4 : x.kind = 4
          · repeat' first | refine TW.seq ?_ | refine TW.block ?_ | refine TW.condT hP rfl ?_ | refine TW.condF hP rfl ?_ | (refine TW.reg hP (by simp [h4, g2] <;> rfl) ?_; dsimp only [goK]) | (refine TO.left ?_ rfl rfl ?_; (focus (simp; done)); refine TO.runs hP (by simp <;> rfl) ?_; dsimp only [goK]) | simp only [q0a]
            refine TW.ret ⟨.inr rfl, _, _, rfl, rfl, ?_⟩
            refine ⟨?_, ?_⟩
            · simp [q0h, mayS, hx, h4, hpl]
            · repeat' first | exact g4
          · by_cases h5 : x.kind = 5
            · repeat' first | refine TW.seq ?_ | refine TW.block ?_ | refine TW.condT hP rfl ?_ | refine TW.condF hP rfl ?_ | (refine TW.reg hP (by simp [h5, g2] <;> rfl) ?_; dsimp only [goK]) | (refine TO.left ?_ rfl rfl ?_; (focus (simp; done)); refine TO.runs hP (by simp <;> rfl) ?_; dsimp only [goK]) | simp only [q0a]
              refine TW.ret ⟨.inr rfl, _, _, rfl, rfl, ?_⟩
              refine ⟨?_, ?_⟩
              · simp [q0h, mayS, hx, h5, hpl]
              · repeat' first | exact g4
            · repeat' first | refine TW.seq ?_ | refine TW.block ?_ | refine TW.condF hP rfl ?_ | (refine TW.reg hP (by simp [h1, h2, h3, h4, h5, g2] <;> rfl) ?_; dsimp only [goK]) | simp only [q0a]
              refine TW.ret ⟨.inr rfl, _, _, rfl, rfl, ?_⟩
              refine ⟨?_, ?_⟩
              · simp [q0h, mayS, hx, h1, h2, h3, h4, h5]
              · repeat' first | exact g4
  | true =>
    by_cases h1 : x.kind = 1
    · repeat' first | refine TW.seq ?_ | refine TW.block ?_ | refine TW.skip ?_ | refine TW.condT hP rfl ?_ | (refine TW.reg hP (by simp [h1, g2] <;> rfl) ?_; dsimp only [goK]) | simp only [q0a]
      refine TW.ret ⟨.inr rfl, _, _, rfl, rfl, ?_⟩
      refine ⟨?_, ?_⟩
      · simp [q0h, mayS, hx, h1, hpl]
      · repeat' first | exact g4
    · by_cases h2 : x.kind = 2
      · repeat' first | refine TW.seq ?_ | refine TW.block ?_ | refine TW.condT hP rfl ?_ | refine TW.condF hP rfl ?_ | (refine TW.reg hP (by simp [h2, g1, g2, g3] <;> rfl) ?_; dsimp only [goK])
        refine TO.qcall hP q6l (there_qt hP _ t.list.length _ [x.elem] (rdI_lit (e := q0C) (by simp [g3]) (by simp [g3])) (by simp)) (by simp) rfl rfl rfl rfl fun k2 hk2 => ?_
        refine TO.runs hP (by simp <;> rfl) ?_
        dsimp only [goK, q0a, q0f, q0d]
        have w2 : Wid h k2 := Wid.trans (g4.new _) hk2
        cases hth : q1U t.list.length [x.elem] with
        | false =>
          repeat' first | refine TW.seq ?_ | (refine TW.reg hP (by simp <;> rfl) ?_; dsimp only [goK]) | simp only [q0a]
          refine TW.ret ⟨.inr rfl, _, _, rfl, rfl, ?_⟩
          refine ⟨?_, ?_⟩
          · simp [q0h, mayS, hx, h2, hpl, hth]
          · exact w2
        | true =>
          repeat' first | refine TW.seq ?_ | (refine TW.reg hP (by simp <;> rfl) ?_; dsimp only [goK]) | simp only [q0a]
          refine TW.ret ⟨.inr rfl, _, _, rfl, rfl, ?_⟩
          refine ⟨?_, ?_⟩
          · simp [q0h, mayS, hx, h2, hpl, hth]
          · exact w2
      · by_cases h3 : x.kind = 3
        · obtain ⟨v', k', happ, hrd, hget, hnx⟩ := app_lit (h := g.new (.cells q0C [.int .i64 x.elem])) (q0Q (gl := gl) (K := K)) (q := g.nx) (x := x.elem) (by simp) (by simp) (rdI_av _ x.parts) (by omega)
          have w1 : Wid g k' := Wid.trans ((Wid.refl g).new _) ⟨hnx, hget⟩
          dsimp only [q0u, q0C] at happ
          rw [g3] at happ
          have k1 := w1.at g1 (by omega)
          have k2 := w1.at g2 (by omega)
          by_cases hl4 : (x.parts.list.length : Int) ≤ 4
          · repeat' first | refine TW.seq ?_ | refine TW.block ?_ | refine TW.condT hP rfl ?_ | refine TW.condF hP rfl ?_ | (refine TW.reg hP (by simp [h3, g2, g3, happ, k1, k2, hl4] <;> rfl) ?_; dsimp only [goK])
            have hl4' : x.parts.list.length ≤ 4 := by omega
            refine TO.qcall hP q6l (there_qt hP _ t.list.length _ _ hrd (by simp; omega)) (by simp) rfl rfl rfl rfl fun k3 hk3 => ?_
            have w3 := w1.trans hk3
            have m1 := w3.at g1 (by omega)
            cases hth : q1U t.list.length (x.elem :: x.parts.list) with
            | false =>
              refine TO.runs hP (by simp <;> rfl) ?_
              dsimp only [goK, q0a, q0f, q0d]
              repeat' first | refine TW.seq ?_ | (refine TW.reg hP (by simp <;> rfl) ?_; dsimp only [goK]) | (refine TO.left ?_ rfl rfl ?_; (focus (simp; done)); refine TO.runs hP (by simp <;> rfl) ?_; dsimp only [goK]) | simp only [q0a]
              refine TW.ret ⟨.inr rfl, _, _, rfl, rfl, ?_⟩
              refine ⟨?_, ?_⟩
              · simp [q0h, mayS, hx, h3, hpl, hl4', hth]
              · exact g4.trans w3
            | true =>
              refine TO.runs hP (by simp <;> rfl) ?_
              dsimp only [goK, q0a, q0f, q0d]
              have hin : ∀ n ∈ x.elem :: x.parts.list, 0 ≤ n ∧ n < t.list.length := fun n hn => by
                have := List.all_eq_true.1 hth n hn
                simpa using this
              refine TO.qcall hP q0V (q6G hP _ _ q6h [.ptr h.nx 0] (fun n => !scAt t.list n) I_types_may_1 _ (hrd.wid hk3) (by simp; omega) fun n hn h' hw => may1 hP t n h.nx q7e h' (by rw [hav]; exact hw.at m1 (by have := w3.nx; omega)) (hin n hn).1 (hin n hn).2) (by simp) rfl rfl rfl rfl fun k4 hk4 => ?_
              have e5 : ((x.elem :: x.parts.list).any fun n => !scAt t.list n) = !((x.elem :: x.parts.list).all (scAt t.list)) := by
                rw [List.not_all_eq_any_not]
              rw [e5]
              have e6 : (mayS t.list k sz) = ((1 : Int), ((x.elem :: x.parts.list).all (scAt t.list))) := by
                simp [mayS, hx, h3, hpl, hl4', hth]
              rw [e6]
              cases ((x.elem :: x.parts.list).all (scAt t.list)) with
              | false =>
                refine TO.runs hP (by simp <;> rfl) ?_
                dsimp only [goK, q0a, q0f, q0d]
                repeat' first | refine TW.seq ?_ | (refine TW.reg hP (by simp <;> rfl) ?_; dsimp only [goK]) | simp only [q0a]
                refine TW.ret ⟨.inr rfl, _, _, rfl, rfl, ?_⟩
                refine ⟨?_, ?_⟩
                · rfl
                · exact g4.trans (w3.trans hk4)
              | true =>
                refine TO.runs hP (by simp <;> rfl) ?_
                dsimp only [goK, q0a, q0f, q0d]
                repeat' first | refine TW.seq ?_ | (refine TW.reg hP (by simp <;> rfl) ?_; dsimp only [goK]) | simp only [q0a]
                refine TW.ret ⟨.inr rfl, _, _, rfl, rfl, ?_⟩
                refine ⟨?_, ?_⟩
                · rfl
                · exact g4.trans (w3.trans hk4)
          · have hl4' : ¬ x.parts.list.length ≤ 4 := by omega
            repeat' first | refine TW.seq ?_ | refine TW.block ?_ | refine TW.condT hP rfl ?_ | refine TW.condF hP rfl ?_ | (refine TW.reg hP (by simp [h3, g2, g3, happ, k1, k2, hl4] <;> rfl) ?_; dsimp only [goK]) | (refine TO.left ?_ rfl rfl ?_; (focus (simp; done)); refine TO.runs hP (by simp <;> rfl) ?_; dsimp only [goK]) | simp only [q0a]
            refine TW.ret ⟨.inr rfl, _, _, rfl, rfl, ?_⟩
            refine ⟨?_, ?_⟩
            · simp [q0h, mayS, hx, h3, hpl, hl4']
            · exact g4.trans w1
        · by_cases h4 : x.kind = 4
          · repeat' first | refine TW.seq ?_ | refine TW.block ?_ | refine TW.condT hP rfl ?_ | refine TW.condF hP rfl ?_ | (refine TW.reg hP (by simp [h4, g2] <;> rfl) ?_; dsimp only [goK])
            refine TO.qcall hP q6l (there_qt hP _ k _ x.parts.list (rdI_av _ _) (by omega)) (by simp) rfl rfl rfl rfl fun k2 hk2 => ?_
            refine TO.runs hP (by simp <;> rfl) ?_
            dsimp only [goK, q0a, q0f, q0d]
            cases hth : q1U k x.parts.list with
            | false =>
              repeat' first | refine TW.seq ?_ | refine TW.condT hP rfl ?_ | (refine TW.reg hP (by simp <;> rfl) ?_; dsimp only [goK]) | simp only [q0a]
              refine TW.ret ⟨.inr rfl, _, _, rfl, rfl, ?_⟩
              refine ⟨?_, ?_⟩
              · simp [q0h, mayS, hx, h4, hpl, hth]
              · exact g4.trans hk2
            | true =>
              have k8 := hk2.at g2 (by omega)
              have hin : ∀ n ∈ x.parts.list, 0 ≤ n ∧ n < k := fun n hn => by
                have := List.all_eq_true.1 hth n hn
                simpa using this
              have rk := (hr.wid g4).wid hk2
              repeat' first | refine TW.seq ?_ | refine TW.block ?_ | refine TW.skip ?_ | refine TW.condF hP rfl ?_ | (refine TW.reg hP (by simp [k8] <;> rfl) ?_; dsimp only [goK])
              refine TW.loopL (fun p : Nat × AV => [(2, v), (12, p.2), (75, x.parts.av cI), (76, .int .i64 x.parts.list.length), (77, .int .i64 (p.1 : Nat))])
                (fun p g' => p.1 ≤ x.parts.list.length ∧ Own 1 q0C k2.nx g' p.2 ((x.parts.list.take p.1).map fun n => [.int .i64 (sz.getD n.toNat 0)]) ∧ WidB k2.nx k2 g') (fun p => x.parts.list.length - p.1) (0, .nilsl) ?_ ⟨Nat.zero_le _, .nil, .refl _ _⟩ ?_
              · repeat' first | exact q0c | refine q0b (by simp) ?_
              rintro ⟨i, lv⟩ g' ⟨hi, hown, hwb⟩
              dsimp only at hi hown ⊢
              refine TW.seq (TW.reg hP (by simp <;> rfl) ?_)
              dsimp only [goK, q0a, q0f, q0d]
              refine TW.seq (TW.cond hP rfl (fun hc => TW.skip ?_) (fun hc => TW.exit ?_))
              · have hi' : i < x.parts.list.length := by simpa using hc
                have hxi : x.parts.list[i]? = some x.parts.list[i] := List.getElem?_eq_getElem hi'
                have hpv := q0z (e := cI) (show 0 < x.parts.list.length by omega)
                obtain ⟨m, hm⟩ := Int.eq_ofNat_of_zero_le (hin _ (List.getElem_mem hi')).1
                have hm2 : m < sz.length := by have := (hin _ (List.getElem_mem hi')).2; omega
                obtain ⟨q, hp1, hp2⟩ := rk.at' (q0Q (gl := gl) (K := K)) (by simp) (q := .i64) hm2
                have hp2 := hp2 g' ⟨hwb.nx, hwb.get⟩
                dsimp only [q0u, q0C] at hp1 hp2
                rw [hm] at hxi
                have hgd : sz.getD m 0 = sz[m] := by simp [List.getD_eq_getElem?_getD, hm2]
                obtain ⟨lv', k', happ, hown', hwb', hnx⟩ := hown.push (row := [.int .i64 sz[m]]) (q0Q (gl := gl) (K := K)) (fun c hc => by obtain ⟨_, _, rfl⟩ := List.mem_map.1 hc; rfl) rfl rfl (by simp; omega) hwb.nx
                dsimp only [q0u, q0C] at happ hown'
                dsimp only [q0a]
                refine TW.seq (TW.block (TW.seq (TW.reg hP (by simp [hxi, hpv] <;> rfl) ?_)))
                dsimp only [goK, q0a]
                refine TW.reg hP (by simp [hp1, hp2, happ] <;> rfl) ?_
                dsimp only [goK, q0a, q0f]
                refine TW.reg hP (by simp; simp (disch := omega) only [bAdd]; simp <;> rfl) ?_
                dsimp only [goK, q0a, q0f, q0d]
                refine ⟨(i + 1, lv'), by dsimp only; omega, rfl, ?_, by dsimp only; omega, ?_, hwb.trans hwb'⟩
                · repeat' first | exact q0c | refine q0b (by simp [hpv]) ?_
                · dsimp only
                  rw [List.take_succ_eq_append_getElem hi', List.map_append, hm]
                  simpa [List.getElem?_eq_getElem hm2] using hown'
              · have hi' : i = x.parts.list.length := by simp at hc; omega
                subst hi'
                dsimp only [q0a, q0d, q0f]
                rw [List.take_length] at hown
                simp only [↓reduceIte]
                have e7 : (x.parts.list.map fun n => [AV.int .i64 (sz.getD n.toNat 0)]) = (x.parts.list.map fun n => sz.getD n.toNat 0).map fun n => [AV.int .i64 n] := by rw [List.map_map]; rfl
                rw [e7] at hown
                have hro := hown.rdI
                have hl := fun g => hro.lenOf (q0Q (gl := gl) (K := K)) g
                dsimp only [q0u, q0C] at hl
                rw [List.length_map] at hl
                have hsm : ∀ n ∈ x.parts.list.map (fun n => sz.getD n.toNat 0), 0 ≤ n ∧ n ≤ 1000 := fun n hn => by
                  obtain ⟨y, hy, rfl⟩ := List.mem_map.1 hn
                  obtain ⟨m, hm⟩ := Int.eq_ofNat_of_zero_le (hin _ hy).1
                  have hm2 : m < sz.length := by have := (hin _ hy).2; omega
                  have : sz.getD y.toNat 0 = sz[m] := by rw [hm]; simp [List.getD_eq_getElem?_getD, hm2]
                  rw [this]; exact hs _ (List.getElem_mem hm2)
                have wk : Wid h g' := ⟨by have := g4.nx; have := hk2.nx; have := hwb.nx; omega, fun r hr => by rw [hwb.get r (by have := g4.nx; have := hk2.nx; omega), hk2.get r (by have := g4.nx; omega), g4.get r hr]⟩
                by_cases hq0 : 0 < x.parts.list.length
                · by_cases hq8 : (x.parts.list.length : Int) ≤ 8
                  · have hq8' : x.parts.list.length ≤ 8 := by omega
                    refine TW.reg hP (by simp [hl, hq0, hq8] <;> rfl) ?_
                    dsimp only [goK]
                    refine TO.qcall hP z0G (sum_qt hP _ lv _ hro (by simp; omega) (fun n hn => by have := hsm n hn; omega)) (by simp) rfl rfl rfl rfl fun k3 hk3 => ?_
                    refine TO.runs hP (by simp <;> rfl) ?_
                    dsimp only [goK, q0a, q0f, q0d]
                    by_cases hs32 : sumN (x.parts.list.map fun n => sz.getD n.toNat 0) ≤ 32
                    · repeat' first | refine TW.seq ?_ | (refine TW.reg hP (by simp <;> rfl) ?_; dsimp only [goK]) | simp only [q0a]
                      refine TW.ret ⟨.inr rfl, _, _, rfl, rfl, ?_⟩
                      refine ⟨?_, ?_⟩
                      · simp [q0h, mayS, hx, h4, hpl, hth, hq0, hq8'] <;> simpa using hs32
                      · exact wk.trans hk3
                    · repeat' first | refine TW.seq ?_ | (refine TW.reg hP (by simp <;> rfl) ?_; dsimp only [goK]) | simp only [q0a]
                      refine TW.ret ⟨.inr rfl, _, _, rfl, rfl, ?_⟩
                      refine ⟨?_, ?_⟩
                      · simp [q0h, mayS, hx, h4, hpl, hth, hq0, hq8'] <;> simpa using hs32
                      · exact wk.trans hk3
                  · have hq8' : ¬ x.parts.list.length ≤ 8 := by omega
                    refine TW.reg hP (by simp [hl, hq0, hq8] <;> rfl) ?_
                    dsimp only [goK]
                    refine TO.qcall hP z0G (sum_qt hP _ lv _ hro (by simp; omega) (fun n hn => by have := hsm n hn; omega)) (by simp) rfl rfl rfl rfl fun k3 hk3 => ?_
                    refine TO.runs hP (by simp <;> rfl) ?_
                    dsimp only [goK, q0a, q0f, q0d]
                    by_cases hs32 : sumN (x.parts.list.map fun n => sz.getD n.toNat 0) ≤ 32
                    · repeat' first | refine TW.seq ?_ | (refine TW.reg hP (by simp <;> rfl) ?_; dsimp only [goK]) | simp only [q0a]
                      refine TW.ret ⟨.inr rfl, _, _, rfl, rfl, ?_⟩
                      refine ⟨?_, ?_⟩
                      · simp [q0h, mayS, hx, h4, hpl, hth, hq0, hq8'] <;> simpa using hs32
                      · exact wk.trans hk3
                    · repeat' first | refine TW.seq ?_ | (refine TW.reg hP (by simp <;> rfl) ?_; dsimp only [goK]) | simp only [q0a]
                      refine TW.ret ⟨.inr rfl, _, _, rfl, rfl, ?_⟩
                      refine ⟨?_, ?_⟩
                      · simp [q0h, mayS, hx, h4, hpl, hth, hq0, hq8'] <;> simpa using hs32
                      · exact wk.trans hk3
                · have hq0' : x.parts.list.length = 0 := by omega
                  refine TW.reg hP (by simp [hl, hq0'] <;> rfl) ?_
                  dsimp only [goK]
                  refine TO.qcall hP z0G (sum_qt hP _ lv _ hro (by simp; omega) (fun n hn => by have := hsm n hn; omega)) (by simp) rfl rfl rfl rfl fun k3 hk3 => ?_
                  refine TO.runs hP (by simp <;> rfl) ?_
                  dsimp only [goK, q0a, q0f, q0d]
                  by_cases hs32 : sumN (x.parts.list.map fun n => sz.getD n.toNat 0) ≤ 32
                  · repeat' first | refine TW.seq ?_ | (refine TW.reg hP (by simp <;> rfl) ?_; dsimp only [goK]) | simp only [q0a]
                    refine TW.ret ⟨.inr rfl, _, _, rfl, rfl, ?_⟩
                    refine ⟨?_, ?_⟩
                    · simp [q0h, mayS, hx, h4, hpl, hth, hq0'] <;> simpa using hs32
                    · exact wk.trans hk3
                  · repeat' first | refine TW.seq ?_ | (refine TW.reg hP (by simp <;> rfl) ?_; dsimp only [goK]) | simp only [q0a]
                    refine TW.ret ⟨.inr rfl, _, _, rfl, rfl, ?_⟩
                    refine ⟨?_, ?_⟩
                    · simp [q0h, mayS, hx, h4, hpl, hth, hq0'] <;> simpa using hs32
                    · exact wk.trans hk3
          · by_cases h5 : x.kind = 5
            · repeat' first | refine TW.seq ?_ | refine TW.block ?_ | refine TW.condT hP rfl ?_ | refine TW.condF hP rfl ?_ | (refine TW.reg hP (by simp [h5, g2, g3] <;> rfl) ?_; dsimp only [goK])
              refine TO.qcall hP q6l (there_qt hP _ k _ [x.elem] (rdI_lit (e := q0C) (by simp [g3]) (by simp [g3])) (by simp)) (by simp) rfl rfl rfl rfl fun k2 hk2 => ?_
              have w2 : Wid g k2 := Wid.trans ((Wid.refl g).new _) hk2
              have k8 := w2.at g2 (by omega)
              cases hth : q1U k [x.elem] with
              | false =>
                refine TO.runs hP (by simp <;> rfl) ?_
                dsimp only [goK, q0a, q0f, q0d]
                repeat' first | refine TW.seq ?_ | refine TW.condT hP rfl ?_ | (refine TW.reg hP (by simp <;> rfl) ?_; dsimp only [goK]) | simp only [q0a]
                refine TW.ret ⟨.inr rfl, _, _, rfl, rfl, ?_⟩
                refine ⟨?_, ?_⟩
                · simp [q0h, mayS, hx, h5, hpl, hth]
                · exact g4.trans w2
              | true =>
                by_cases hm1 : 1 ≤ x.many
                · by_cases hm2 : x.many ≤ 16
                  · have hin : 0 ≤ x.elem ∧ x.elem < k := by simpa [q1U] using hth
                    obtain ⟨i, hi⟩ := Int.eq_ofNat_of_zero_le hin.1
                    have hi2 : i < sz.length := by omega
                    have hsi := hs sz[i] (List.getElem_mem hi2)
                    obtain ⟨q, hp1, hp2⟩ := (hr.wid (g4.trans w2)).at' (q0Q (gl := gl) (K := K)) (by simp) (q := .i64) hi2
                    dsimp only [q0u, q0C] at hp1 hp2
                    have hb1 : 0 ≤ x.many * sz[i] := Int.mul_nonneg (by omega) hsi.1
                    have hb2 : x.many * sz[i] ≤ 16 * 1000 := Int.mul_le_mul hm2 hsi.2 hsi.1 (by omega)
                    have hbm := bMul (C := Ctx.of Tryz.prog gl (K.tell [])) (t := 3) (a := x.many) (b := sz[i]) (by omega) (by omega)
                    have hp1' : indexAt (Ctx.of Tryz.prog gl (K.tell [])) q0u v (.int .i64 (i : Nat)) = some q := hp1
                    dsimp only [q0u] at hp1'
                    have hp2' : ∀ g, Wid k2 g → loadAt (Ctx.of Tryz.prog gl (K.tell [])) 3 q g = some (.int .i64 sz[i]) := hp2
                    have hp3 := hp2' _ (Wid.refl _).z
                    rw [hi] at k8
                    refine TO.runs hP (by simp [k8, hm1, hm2] <;> rfl) ?_
                    dsimp only [goK, q0a, q0f, q0d]
                    refine TW.seq (TW.reg hP (by simp <;> rfl) ?_)
                    dsimp only [goK, q0a, q0f, q0d]
                    refine TW.condF hP rfl (TW.skip ?_)
                    dsimp only [q0a]
                    refine TW.drawQ hP [] (fun e he => by cases he) (by kernel_rfl) (by simp [k8, hp1', hp3, hbm] <;> rfl) ?_
                    dsimp only
                    have hgd : sz.getD x.elem.toNat 0 = sz[i] := by rw [hi]; simp [List.getD_eq_getElem?_getD, hi2]
                    by_cases hs32 : x.many * sz[i] ≤ 32
                    · repeat' first | refine TW.seq ?_ | (refine TW.reg hP (by simp [hs32] <;> rfl) ?_; dsimp only [goK]) | simp only [q0a]
                      refine TW.ret ⟨.inr rfl, _, _, rfl, rfl, ?_⟩
                      refine ⟨?_, ?_⟩
                      · simp only [q0h, mayS, hx, h5, hpl, hth, hm1, hm2, hgd]; simp [hs32]
                      · exact g4.trans w2.z
                    · repeat' first | refine TW.seq ?_ | (refine TW.reg hP (by simp [hs32] <;> rfl) ?_; dsimp only [goK]) | simp only [q0a]
                      refine TW.ret ⟨.inr rfl, _, _, rfl, rfl, ?_⟩
                      refine ⟨?_, ?_⟩
                      · simp only [q0h, mayS, hx, h5, hpl, hth, hm1, hm2, hgd]; simp [hs32]
                      · exact g4.trans w2.z
                  · refine TO.runs hP (by simp [k8, hm1, hm2] <;> rfl) ?_
                    dsimp only [goK, q0a, q0f, q0d]
                    repeat' first | refine TW.seq ?_ | refine TW.condT hP rfl ?_ | (refine TW.reg hP (by simp <;> rfl) ?_; dsimp only [goK]) | simp only [q0a]
                    refine TW.ret ⟨.inr rfl, _, _, rfl, rfl, ?_⟩
                    refine ⟨?_, ?_⟩
                    · simp [q0h, mayS, hx, h5, hpl, hth, hm1, hm2]
                    · exact g4.trans w2
                · refine TO.runs hP (by simp [k8, hm1] <;> rfl) ?_
                  dsimp only [goK, q0a, q0f, q0d]
                  repeat' first | refine TW.seq ?_ | refine TW.condT hP rfl ?_ | (refine TW.reg hP (by simp <;> rfl) ?_; dsimp only [goK]) | simp only [q0a]
                  refine TW.ret ⟨.inr rfl, _, _, rfl, rfl, ?_⟩
                  refine ⟨?_, ?_⟩
                  · simp [q0h, mayS, hx, h5, hpl, hth, hm1]
                  · exact g4.trans w2
            · repeat' first | refine TW.seq ?_ | refine TW.block ?_ | refine TW.condF hP rfl ?_ | (refine TW.reg hP (by simp [h1, h2, h3, h4, h5, g2] <;> rfl) ?_; dsimp only [goK]) | simp only [q0a]
              refine TW.ret ⟨.inr rfl, _, _, rfl, rfl, ?_⟩
              refine ⟨?_, ?_⟩
              · simp [q0h, mayS, hx, h1, h2, h3, h4, h5]
              · repeat' first | exact g4
def q5L (t : List LType) : Nat → List Int → Option (List Int)
 | 0, sz => some sz
 | n + 1, sz => if (mayS t sz.length sz).2 = true then q5L t n (sz ++ [(mayS t sz.length sz).1]) else none
def typesE (t : List LType) : Int := if 16 < t.length then 4 else match q5L t t.length [] with | some _ => 0 | none => 30
theorem mayS_bnd {t : List LType} {k : Nat} {sz : List Int} (hs : ∀ n ∈ sz, 0 ≤ n ∧ n ≤ 1000) (h : (mayS t k sz).2 = true) : 0 ≤ (mayS t k sz).1 ∧ (mayS t k sz).1 ≤ 32 := by
  have hg : ∀ i, 0 ≤ sz.getD i 0 := fun i => by
    rw [List.getD_eq_getElem?_getD]
    cases hi : sz[i]? with
    | none => exact Int.le_refl _
    | some x => exact (hs x (List.mem_of_getElem? hi)).1
  have hsum : ∀ (f : Int → Int) (l : List Int), (∀ n, 0 ≤ f n) → 0 ≤ sumN (l.map f) := fun f l hf => by
    induction l with
    | nil => exact Int.le_refl _
    | cons a l ih => have := hf a; simp only [List.map_cons, sumN]; omega
  unfold mayS at h ⊢
  cases ht : t[k]? with
  | none => rw [ht] at h; cases h
  | some x =>
    rw [ht] at h
    dsimp only at h ⊢
    split
    · exact ⟨show (0 : Int) ≤ 1 by decide, show (1 : Int) ≤ 32 by decide⟩
    split
    · exact ⟨show (0 : Int) ≤ 1 by decide, show (1 : Int) ≤ 32 by decide⟩
    split
    · exact ⟨show (0 : Int) ≤ 1 by decide, show (1 : Int) ≤ 32 by decide⟩
    split
    · rename_i h1 h2 h3 h4
      rw [if_neg h1, if_neg h2, if_neg h3, if_pos h4] at h
      split
      · rename_i hp
        rw [if_pos hp] at h
        simp only [Bool.and_eq_true, decide_eq_true_eq] at h
        exact ⟨hsum _ _ fun n => hg _, h.2.2⟩
      · exact ⟨show (0 : Int) ≤ 0 by decide, show (0 : Int) ≤ 32 by decide⟩
    split
    · rename_i h1 h2 h3 h4 h5
      rw [if_neg h1, if_neg h2, if_neg h3, if_neg h4, if_pos h5] at h
      split
      · rename_i hp
        rw [if_pos hp] at h
        simp only [Bool.and_eq_true, decide_eq_true_eq] at h hp
        exact ⟨Int.mul_nonneg (by omega) (hg _), h⟩
      · exact ⟨show (0 : Int) ≤ 0 by decide, show (0 : Int) ≤ 32 by decide⟩
    · exact ⟨show (0 : Int) ≤ 1 by decide, show (1 : Int) ≤ 32 by decide⟩
theorem types_Check_pure (hP : POk Tryz.prog F gl K) (t : Sl LType) (hp : ∀ x ∈ t.list, x.parts.list.length < 900000) (hlt : t.list.length < 1000000) : q0y Tryz.prog F q8d [t.av LType.cells] (.int .i64 (typesE t.list)) := by
  refine CallsT.pure (O := fun v _ => v = .int .i64 (typesE t.list)) (k := 1) (by simp) ?_ (fun v h e => by subst e; rfl)
  refine CallsT.body hP q0e E_types_Check rfl rfl ?_
  refine TW.seq (TW.reg hP (by simp <;> rfl) ?_)
  dsimp only [goK, q0a, q0f, q0d]
  by_cases h16 : (16 : Int) < t.list.length
  · repeat' first | refine TW.seq ?_ | refine TW.condT hP rfl ?_ | (refine TW.reg hP (by simp [h16] <;> rfl) ?_; dsimp only [goK]) | simp only [q0a]
    refine TW.ret ⟨.inr rfl, _, _, rfl, rfl, ?_⟩
    simp [q0h, typesE, show 16 < t.list.length by omega]
  · have h16' : ¬ 16 < t.list.length := by omega
    repeat' first | refine TW.seq ?_ | refine TW.block ?_ | refine TW.skip ?_ | refine TW.condF hP rfl ?_ | (refine TW.reg hP (by simp [h16] <;> rfl) ?_; dsimp only [goK])
    refine TW.loopL (fun p : Nat × AV × List Int => [(0, t.av LType.cells), (3, p.2.1), (11, .int .i64 t.list.length), (12, .int .i64 (p.1 : Nat))])
      (fun p g => p.1 ≤ t.list.length ∧ p.2.2.length = p.1 ∧ (∀ n ∈ p.2.2, 0 ≤ n ∧ n ≤ 1000) ∧ q5L t.list t.list.length [] = q5L t.list (t.list.length - p.1) p.2.2 ∧ Own 1 q0C 0 g p.2.1 (p.2.2.map fun n => [.int .i64 n]))
      (fun p => t.list.length - p.1) (0, .nilsl, []) ?_ ⟨Nat.zero_le _, rfl, (fun n hn => by cases hn), rfl, .nil⟩ ?_
    · repeat' first | exact q0c | refine q0b (by simp) ?_
    rintro ⟨i, lv, sz⟩ g ⟨hi, hsz, hs, hgo, hown⟩
    dsimp only at hi hsz hs hgo hown ⊢
    refine TW.seq (TW.reg hP (by simp <;> rfl) ?_)
    dsimp only [goK, q0a, q0f, q0d]
    refine TW.seq (TW.cond hP rfl (fun hc => TW.skip ?_) (fun hc => TW.exit ?_))
    · have hi' : i < t.list.length := by simpa using hc
      have hstep : q5L t.list (t.list.length - i) sz = if (mayS t.list i sz).2 = true then q5L t.list (t.list.length - (i + 1)) (sz ++ [(mayS t.list i sz).1]) else none := by
        rw [show t.list.length - i = (t.list.length - (i + 1)) + 1 by omega]
        simp only [q5L, hsz]
      dsimp only [q0a]
      refine TW.seq (TW.block (TW.seq (TW.reg hP (by simp <;> rfl) ?_)))
      dsimp only [goK, q0a]
      refine TW.seq (TW.reg hP (by simp <;> rfl) ?_)
      dsimp only [goK, q0a, q0f, q0d]
      refine TO.qcall hP I_types_may (may_qt hP g t i lv sz hown.rdI hi' hsz hs hlt hp) (by simp) rfl rfl rfl rfl fun k hk => ?_
      have hb := mayS_bnd (t := t.list) (k := i) hs
      rw [hstep] at hgo
      cases hm : (mayS t.list i sz).2 with
      | false =>
        rw [hm] at hgo
        refine TO.runs hP (by simp <;> rfl) ?_
        dsimp only [goK, q0a, q0f, q0d]
        repeat' first | refine TW.seq ?_ | refine TW.condT hP rfl ?_ | (refine TW.reg hP (by simp <;> rfl) ?_; dsimp only [goK]) | simp only [q0a]
        refine TW.ret ⟨.inr rfl, _, _, rfl, rfl, ?_⟩
        simp [q0h, typesE, h16', hgo]
      | true =>
        rw [hm] at hgo
        have hb := hb hm
        refine TO.runs hP (by simp <;> rfl) ?_
        dsimp only [goK, q0a, q0f, q0d]
        have hown2 := hown.wid hk
        obtain ⟨lv', k', happ, hown', hwb', hnx⟩ := hown2.push (row := [.int .i64 (mayS t.list i sz).1]) (q0Q (gl := gl) (K := K)) (fun c hc => by obtain ⟨_, _, rfl⟩ := List.mem_map.1 hc; rfl) rfl rfl (by simp; omega) (Nat.zero_le _)
        dsimp only [q0u, q0C] at happ hown'
        have hinc := inc_ (C := Ctx.of Tryz.prog gl K) (t := q0C) (i := i) (by omega)
        dsimp only [q0C] at hinc
        repeat' first | refine TW.seq ?_ | refine TW.skip ?_ | refine TW.condF hP rfl ?_ | (refine TW.reg hP (by simp [happ, hinc] <;> rfl) ?_; dsimp only [goK])
        dsimp only [q0d]
        refine ⟨(i + 1, lv', sz ++ [(mayS t.list i sz).1]), by dsimp only; omega, rfl, ?_, by dsimp only; omega, by simp [hsz], fun n hn => ?_, by simpa using hgo, ?_⟩
        · repeat' first | exact q0c | refine q0b (by simp) ?_
        · rcases List.mem_append.1 hn with hn | hn
          · exact hs n hn
          · rw [List.mem_singleton.1 hn]; omega
        · simpa using hown'
    · have hi' : i = t.list.length := by simp at hc; omega
      subst hi'
      rw [Nat.sub_self] at hgo
      repeat' first | refine TW.seq ?_ | (refine TW.reg hP (by simp <;> rfl) ?_; dsimp only [goK]) | simp only [q0a]
      refine TW.ret ⟨.inr rfl, _, _, rfl, rfl, ?_⟩
      simp [q0h, typesE, h16', hgo, q5L]
def q1V (n most : Int) : Bool := decide (0 ≤ n) && decide (n < most)
theorem q1N (hP : POk Tryz.prog F gl K) (n most : Int) : q0y Tryz.prog F q8f [.int .i64 n, .int .i64 most] (.bool (q1V n most)) := by
 refine CallsT.pure (O := fun v _ => v = .bool (q1V n most)) (k := 1) (by simp) ?_ (fun v h e => by subst e; rfl)
 refine CallsT.body hP q0e E_shape_below rfl rfl ?_
 refine TW.seq (TW.reg hP (by simp <;> rfl) ?_)
 dsimp only [goK, q0a, q0f, q0d]
 refine TW.seq (TW.reg hP (by simp +contextual -implicitDefEqProofs <;> rfl) ?_)
 dsimp only [goK, q0a, q0f, q0d]
 refine TW.ret ⟨.inr rfl, _, _, rfl, rfl, ?_⟩
 simp [q0h, q1V]
theorem all1 (hP : POk Tryz.prog F gl K) (most n : Int) (r : Nat) (e : TypeId) (h : Hp) (hr : h.get r = some (.cells e [.int .i64 most])) :
  Qt Tryz.prog F h (.bool (!q1V n most)) q6k [.int .i64 n, .ptr r 0] := by
 refine CallsT.body hP q0e E_shape_all_1 rfl rfl ?_
 refine TW.seq (TW.reg hP (by simp <;> rfl) ?_)
 dsimp only [goK, q0a, q0f, q0d]
 refine TW.seq (TW.reg hP (by simp [hr] <;> rfl) ?_)
 dsimp only [goK, q0a, q0f, q0d]
 refine TO.scall hP q0D (q1N hP n most) (by simp) rfl rfl rfl rfl ?_
 refine TO.runs hP (by simp <;> rfl) ?_
 dsimp only [goK, q0a, q0f, q0d]
 refine TW.ret ⟨.inr rfl, h, _, rfl, rfl, ?_, .refl _⟩
 simp [q0h]
theorem all_pure (hP : POk Tryz.prog F gl K) (most : Int) (xs : Sl Int) (hlen : xs.list.length < 1000000) : q0y Tryz.prog F z0F [xs.av cI, .int .i64 most] (.bool (q1U most xs.list)) := by
 refine CallsT.pure (O := fun v _ => v = .bool (q1U most xs.list)) (k := 1) (by simp) ?_ (fun v h e => by subst e; rfl)
 refine CallsT.body hP q0e E_shape_all rfl rfl ?_
 refine TW.seq (TW.reg hP (by simp <;> rfl) ?_)
 dsimp only [goK, q0a, q0f, q0d]
 refine TW.seq (TW.reg hP (by simp <;> rfl) ?_)
 dsimp only [goK, q0a, q0f, q0d]
 refine TO.qcall hP q0V (q7B hP xs q6k [.ptr 0 0] (fun n => !q1V n most) I_shape_all_1 _ hlen fun x _ h' hw => all1 hP most x 0 q0C h' ((hw.at (o := .cells q0C [.int .i64 most]) (by simp) (by simp)))) (by simp) rfl rfl rfl rfl fun k hk => ?_
 refine TO.runs hP (by simp <;> rfl) ?_
 dsimp only [goK, q0a, q0f, q0d]
 refine TW.ret ⟨.inr rfl, k, _, rfl, rfl, ?_⟩
 simp only [q0h, q1U]
 congr 1
 rw [List.not_any_eq_all_not]
 simp [q1V]
structure LSizes where
 types : Int
 funcs : Int
 regs : Int
 blocks : Int
def LSizes.cells (x : LSizes) : List AV := [.int .i64 x.types, .int .i64 x.funcs, .int .i64 x.regs, .int .i64 x.blocks]
attribute [simp] LSizes.cells
def q4d (x : LIns) (s : LSizes) : Bool :=
 if x.op = 3 ∨ x.op = 18 then decide (0 ≤ x.n) && decide (x.n < s.funcs) else if x.op = 14 then decide (0 ≤ x.n) && decide (x.n < 8) else true
theorem number_pure (hP : POk Tryz.prog F gl K) (x : LIns) (s : LSizes) : q0y Tryz.prog F q7j [.agg x.cells, .agg s.cells] (.bool (q4d x s)) := by
 refine CallsT.pure (O := fun v _ => v = .bool (q4d x s)) (k := 1) (by simp) ?_ (fun v h e => by subst e; rfl)
 refine CallsT.body hP q0e E_shape_number rfl rfl ?_
 refine TW.seq (TW.reg hP (by simp <;> rfl) ?_)
 dsimp only [goK, q0a, q0f, q0d]
 by_cases h3 : x.op = 3
 ·repeat' first | refine TW.seq ?_ | refine TW.block ?_ | refine TW.skip ?_ | refine TW.condT hP rfl ?_ | (refine TW.reg hP (by simp +contextual -implicitDefEqProofs [h3] <;> rfl) ?_; dsimp only [goK]) | simp only [q0a]
  refine TW.ret ⟨.inr rfl, _, _, rfl, rfl, ?_⟩
  simp [q0h, q4d, h3]
 ·by_cases h18 : x.op = 18
  ·repeat' first | refine TW.seq ?_ | refine TW.block ?_ | refine TW.condT hP rfl ?_ | refine TW.condF hP rfl ?_ | (refine TW.reg hP (by simp +contextual -implicitDefEqProofs [h18] <;> rfl) ?_; dsimp only [goK]) | simp only [q0a]
   refine TW.ret ⟨.inr rfl, _, _, rfl, rfl, ?_⟩
   simp [q0h, q4d, h18]
  ·by_cases h14 : x.op = 14
   ·repeat' first | refine TW.seq ?_ | refine TW.block ?_ | refine TW.condT hP rfl ?_ | refine TW.condF hP rfl ?_ | (refine TW.reg hP (by simp +contextual -implicitDefEqProofs [h14] <;> rfl) ?_; dsimp only [goK]) | simp only [q0a]
    refine TW.ret ⟨.inr rfl, _, _, rfl, rfl, ?_⟩
    simp [q0h, q4d, h14]
   ·repeat' first | refine TW.seq ?_ | refine TW.block ?_ | refine TW.skip ?_ | refine TW.condF hP rfl ?_ | (refine TW.reg hP (by simp +contextual -implicitDefEqProofs [h3, h18, h14] <;> rfl) ?_; dsimp only [goK]) | simp only [q0a]
    refine TW.ret ⟨.inr rfl, _, _, rfl, rfl, ?_⟩
    simp [q0h, q4d, h3, h18, h14]
end Go.Ax
set_option maxRecDepth 20000
noncomputable section
namespace Go.Ax
open Go.Proofs
def w64 (n : Int) : Int := q8s .i64 n
variable {C : Ctx} {t : TypeId} {a b : Int}
theorem bAddW : q0Z C .add t (.int .i64 a) (.int .i64 b) = some (.int .i64 (w64 (a + b))) := by
 show some (AV.int .i64 (q8s .i64 (addI a b))) = _; rw [addI_eq]; rfl
theorem bSubW : q0Z C .sub t (.int .i64 a) (.int .i64 b) = some (.int .i64 (w64 (a - b))) := by
 show some (AV.int .i64 (q8s .i64 (subI a b))) = _; rw [subI_eq]; rfl
theorem w64e {n : Int} (h1 : -9223372036854775808 ≤ n) (h2 : n ≤ 9223372036854775807) : w64 n = n := wrap_i64 h1 h2
theorem w64s {k : Nat} (h : k < 9000000000000000000) : w64 ((k : Int) + 1) = ((k + 1 : Nat) : Int) := by rw [w64e (by omega) (by omega)]; rfl
attribute [simp] bAddW bSubW
theorem any_take_succ {α : Type} {l : List α} {p : α → Bool} {i : Nat} {x : α} (hx : l[i]? = some x) : (l.take (i + 1)).any p = ((l.take i).any p || p x) := by
 obtain ⟨h, rfl⟩ := List.getElem?_eq_some_iff.1 hx
 rw [List.take_succ_eq_append_getElem h, List.any_append]; simp
theorem q3B {α : Type} {l : List α} {p : α → Bool} {i : Nat} {x : α} (hx : l[i]? = some x) : (l.take (i + 1)).all p = ((l.take i).all p && p x) := by
 obtain ⟨h, rfl⟩ := List.getElem?_eq_some_iff.1 hx
 rw [List.take_succ_eq_append_getElem h, List.all_append]; simp
theorem q0g {α : Type} {l : List α} {i : Nat} (h : i < l.length) : ∃ x, l[i]? = some x := ⟨_, List.getElem?_eq_getElem h⟩
theorem any_true_of {α : Type} {l : List α} {p : α → Bool} {i : Nat} {x : α} (hx : l[i]? = some x) (hp : p x = true) : l.any p = true := List.any_eq_true.2 ⟨x, List.mem_of_getElem? hx, hp⟩
theorem q2N {α : Type} {l : List α} {p : α → Bool} {i : Nat} {x : α} (hx : l[i]? = some x) (hp : p x = false) : l.all p = false := by
 cases h : l.all p with
 | false => rfl
 | true => rw [List.all_eq_true] at h; rw [h x (List.mem_of_getElem? hx)] at hp; cases hp
theorem flatMap_bnd {α β : Type} {f : α → List β} {c : Nat} : ∀ {l : List α}, (∀ x ∈ l, (f x).length ≤ c) → (l.flatMap f).length ≤ c * l.length
  | [], _ => by simp
  | a :: l, h => by
    have h1 := h a List.mem_cons_self
    have h2 := flatMap_bnd (l := l) fun x hx => h x (List.mem_cons_of_mem _ hx)
    rw [List.flatMap_cons, List.length_append, List.length_cons, Nat.mul_add]
    omega
theorem flatMap_take_succ {α β : Type} {f : α → List β} {l : List α} {i : Nat} {x : α} (hx : l[i]? = some x) : (l.take (i + 1)).flatMap f = (l.take i).flatMap f ++ f x := by
 obtain ⟨h, rfl⟩ := List.getElem?_eq_some_iff.1 hx
 rw [List.take_succ_eq_append_getElem h, List.flatMap_append]; simp
theorem q8Y {h : Hp} {b k : Nat} {v : AV} {l : List Int} (ho : Own 1 q0C b h v (l.map cI)) (hl : l ≠ []) : frzV (k + 2) h v = some (.isl (l.map cI)) := by
  have := ho.frz (k := k + 1) (rows' := l.map cI) (fun c hc => by obtain ⟨n, _, rfl⟩ := List.mem_map.1 hc; rfl) (by
    induction l with
    | nil => rfl
    | cons a l ih =>
      simp only [List.map_cons, mapO, cI]
      have : ∀ l : List Int, mapO (mapO (frzV (k + 1) h)) (l.map cI) = some (l.map cI) := fun l => by
        induction l with
        | nil => rfl
        | cons a l ih => simp only [List.map_cons, mapO, cI, ih]; rfl
      rw [this]; rfl)
  rw [this]
  cases l with
  | nil => exact absurd rfl hl
  | cons a l => rfl
theorem q3W {gl : Nat → AV} {K : Knob} : q6P ((Ctx.of Tryz.prog gl K).ti q0u) = true := by simp [q6P, q8I]
theorem src_isl {h : Hp} {es : Nat} {xs : List (List AV)} (hx : ∀ c ∈ xs, c.length = es) : q1e h es xs.length (.isl xs) = some xs.flatten := by
 unfold q1e
 have : (xs.all fun c => Nat.beq c.length es) = true := List.all_eq_true.2 fun c hc => by rw [hx c hc]; exact Nat.beq_refl _
 dsimp only
 rw [this]
 simp [q5O]
theorem q1a {l : List Int} : ∀ c ∈ l.map cI, c.length = 1 := fun c hc => by obtain ⟨n, _, rfl⟩ := List.mem_map.1 hc; rfl
theorem q6x {l : List Int} : (l.map cI).flatten.all q0P = true := by
 induction l with
 | nil => rfl
 | cons a l ih => simp
theorem ints_frz {h : Hp} {k : Nat} (l : List Int) : mapO (mapO (frzV (k + 1) h)) (l.map cI) = some (l.map cI) := by
  induction l with
  | nil => rfl
  | cons a l ih =>
    simp only [List.map_cons, mapO, cI, ih]
    rfl
def joinQ {ι : Type} (K : ι → Kn) (H : ι → Hp → Prop) (ds : List ADef) (Q : PQ) : PQ
 | .normal, l, h, ds' => ∃ y, ds' = ds ∧ Less l (K y) ∧ H y h
 | e, l, h, ds' => Q e l h ds'
theorem TW.join {P : Program} {F : Nat → Option Obj} {c d : Code} {n : Nat} {rd : Option Nat} {l : Kn} {h : Hp} {ds : List ADef} {Q : PQ} {ι : Type} (K : ι → Kn) (H : ι → Hp → Prop)
    (h1 : TW P F c n rd l h ds (joinQ K H ds Q)) (h2 : ∀ y g, H y g → TW P F d n rd (K y) g ds Q) : TW P F (.seq c d) n rd l h ds Q :=
  TW.seq (h1.mono fun e l' h' ds' hq => by
    cases e with
    | normal =>
      obtain ⟨y, rfl, h3, h4⟩ := hq
      exact (h2 y h' h4).less h3
    | exit i => exact hq
    | goto i => exact hq
    | ret => exact hq
    | panic v => exact hq)
end Go.Ax
set_option maxRecDepth 20000
noncomputable section
namespace Go.Ax
open Go.Proofs
attribute [local irreducible] TW TO CallsT q0y
variable {F : Nat → Option Obj} {gl : Nat → AV} {K : Knob}
def great3 (t : List LType) : Bool := (t.take 30).any (fun x => decide (20 < x.parts.list.length)) || decide (20 < t.length)
theorem Great3_pure (hP : POk Tryz.prog F gl K) (t : Sl LType) : q0y Tryz.prog F q4q [t.av LType.cells] (.bool (great3 t.list)) := by
 refine CallsT.pure (O := fun u _ => u = .bool (great3 t.list)) (k := 1) (by simp) ?_ (fun u g e => by subst e; rfl)
 refine CallsT.body hP q0e z0W rfl rfl ?_
 repeat' first | refine TW.seq ?_ | refine TW.block ?_ | (refine TW.regG hP (by simp <;> rfl) ?_; dsimp only [goK])
 refine TW.loopL (fun i : Nat => [(0, t.av LType.cells), (2, .bool false), (3, .int .i64 i)]) (fun i _ => i ≤ t.list.length ∧ i ≤ 30 ∧ (t.list.take i).any (fun x => decide (20 < x.parts.list.length)) = false) (fun i => t.list.length - i) (0) ?_ ?_ ?_
 focus (repeat' first | exact q0c | refine q0b (by simp) ?_)
 ·simp
 rintro i g ⟨hi, hi30, hall⟩
 have fin : ∀ {b : Bool}, ¬ (i < t.list.length ∧ i < 30) → b = decide (20 < (t.list.length : Int)) → AV.bool b = .bool (great3 t.list) := fun hc e => by
  have : (t.list.take 30).any (fun x => decide (20 < x.parts.list.length)) = false := by
   by_cases h : i < t.list.length
   ·have : i = 30 := by omega
    subst this; exact hall
   ·rw [List.take_of_length_le (by omega)] at hall ⊢; exact hall
  rw [e]; simp [great3, this]; omega
 repeat' first | refine TW.seq ?_ | refine TW.exit ?_ | refine TW.condF hP rfl ?_ | (refine TW.regG hP (by simp <;> rfl) ?_; dsimp only [goK]) | (refine q0E (fun hb => ?_) (fun hb => ?_) <;> (try simp only [Bool.not_eq_eq_eq_not, Bool.not_true, Bool.not_false] at hb) <;> (refine q2c (by simp [hb] <;> rfl) ?_; dsimp only [goK])) | simp only [q0a]
 ·refine TW.cond hP rfl (fun hc => TW.skip ?_) (fun hc => TW.exit ?_)
  ·simp at hb hc
   obtain ⟨x, hx⟩ := q0g hb
   have hav := q0z (e := LType.cells) (show 0 < t.list.length by omega)
   have hs := any_take_succ (p := fun x => decide (20 < x.parts.list.length)) hx
   dsimp only [q0a]
   repeat' first | refine TW.seq ?_ | refine TW.block ?_ | refine TW.skip ?_ | (refine TW.regG hP (by simp [hx, hav] <;> rfl) ?_; dsimp only [goK]) | simp only [q0a, q0d] | (refine TW.cond hP rfl (fun hc => ?_) (fun hc => ?_) <;> simp at hc) | (refine TW.ret ⟨.inr rfl, _, _, rfl, rfl, ?_⟩; dsimp only [q0h])
   ·simp only [great3]
    rw [any_true_of (i := i) (x := x)] <;> simp [List.getElem?_take, hx] <;> omega
   ·refine ⟨i + 1, by omega, trivial, ?_, by omega, by omega, by rw [hs, hall]; simp; omega⟩
    repeat' first | exact q0c | refine q0b (by simp [hav, w64s (show i < 9000000000000000000 by omega)]) ?_
  ·simp at hb hc
   dsimp only [q0a]
   repeat' first | refine TW.seq ?_ | (refine TW.regG hP (by simp <;> rfl) ?_; dsimp only [goK]) | simp only [q0a] | (refine TW.ret ⟨.inr rfl, _, _, rfl, rfl, ?_⟩; dsimp only [q0h])
   exact fin (by omega) rfl
 ·simp at hb
  repeat' first | (refine TW.ret ⟨.inr rfl, _, _, rfl, rfl, ?_⟩; dsimp only [q0h])
  exact fin (by omega) rfl
def kindAt (t : List LType) (k : Int) : Int := match t[k.toNat]? with | some x => x.kind | none => 0
def q5y (t : List LType) (k : Int) : Bool := decide (0 ≤ k) && (decide (k < t.length) && (decide (kindAt t k = 1) || (decide (kindAt t k = 2) || decide (kindAt t k = 3))))
theorem z0B (hP : POk Tryz.prog F gl K) (t : Sl LType) (k : Int) : q0y Tryz.prog F q4p [t.av LType.cells, .int .i64 k] (.bool (q5y t.list k)) := by
 refine CallsT.pure (O := fun u _ => u = .bool (q5y t.list k)) (k := 1) (by simp) ?_ (fun u g e => by subst e; rfl)
 refine CallsT.body hP q0e z0V rfl rfl ?_
 by_cases h0 : 0 ≤ k
 ·obtain ⟨n, rfl⟩ := Int.eq_ofNat_of_zero_le h0
  by_cases hn : n < t.list.length
  ·obtain ⟨x, hx⟩ := q0g hn
   have hav := q0z (e := LType.cells) (show 0 < t.list.length by omega)
   repeat' first | refine TW.seq ?_ | (refine TW.regG hP (by simp [decide_eq_true hn, hx, hav] <;> rfl) ?_; dsimp only [goK]) | (refine q0E (fun hb => ?_) (fun hb => ?_) <;> (try simp only [Bool.not_eq_eq_eq_not, Bool.not_true, Bool.not_false] at hb) <;> (refine q2c (by simp [hb, hx] <;> rfl) ?_; dsimp only [goK])) | simp only [q0a] | (refine TW.ret ⟨.inr rfl, _, _, rfl, rfl, ?_⟩; dsimp only [q0h])
   all_goals simp_all [q5y, kindAt]
  ·repeat' first | refine TW.seq ?_ | (refine TW.regG hP (by simp [hn] <;> rfl) ?_; dsimp only [goK]) | simp only [q0a] | (refine TW.ret ⟨.inr rfl, _, _, rfl, rfl, ?_⟩; dsimp only [q0h])
   simp [q5y, hn]
 ·repeat' first | refine TW.seq ?_ | (refine TW.regG hP (by simp [h0] <;> rfl) ?_; dsimp only [goK]) | simp only [q0a] | (refine TW.ret ⟨.inr rfl, _, _, rfl, rfl, ?_⟩; dsimp only [q0h])
  simp [q5y, h0]
def q2s (l : List Int) (k : Int) : Bool := l.all fun n => decide (0 ≤ n) && decide (n < k)
theorem lower3_pure (hP : POk Tryz.prog F gl K) (l : Sl Int) (k : Int) (hlen : l.list.length < 1000000) : q0y Tryz.prog F q4o [l.av cI, .int .i64 k] (.bool (q2s l.list k)) := by
 refine CallsT.pure (O := fun u _ => u = .bool (q2s l.list k)) (k := 1) (by simp) ?_ (fun u g e => by subst e; rfl)
 refine CallsT.body hP q0e z0U rfl rfl ?_
 repeat' first | refine TW.seq ?_ | refine TW.block ?_ | (refine TW.regG hP (by simp <;> rfl) ?_; dsimp only [goK])
 refine TW.loopL (fun i : Nat => [(0, l.av cI), (1, .int .i64 k), (4, .bool false), (5, .int .i64 i)]) (fun i _ => i ≤ l.list.length ∧ (l.list.take i).all (fun n => decide (0 ≤ n) && decide (n < k)) = true) (fun i => l.list.length - i) (0) ?_ ?_ ?_
 focus (repeat' first | exact q0c | refine q0b (by simp) ?_)
 ·simp
 rintro i g ⟨hi, hall⟩
 repeat' first | refine TW.seq ?_ | (refine TW.regG hP (by simp <;> rfl) ?_; dsimp only [goK]) | simp only [q0a]
 refine TW.cond hP rfl (fun hc => TW.skip ?_) (fun hc => TW.exit ?_)
 ·simp at hc
  obtain ⟨x, hx⟩ := q0g hc
  have hav := q0z (e := cI) (show 0 < l.list.length by omega)
  have hs := q3B (p := fun n => decide (0 ≤ n) && decide (n < k)) hx
  dsimp only [q0a]
  repeat' first | refine TW.seq ?_ | refine TW.block ?_ | refine TW.skip ?_ | refine TW.condT hP rfl ?_ | (refine TW.regG hP (by simp [hx, hav] <;> rfl) ?_; dsimp only [goK]) | (refine q0E (fun hb => ?_) (fun hb => ?_) <;> (try simp only [Bool.not_eq_eq_eq_not, Bool.not_true, Bool.not_false] at hb) <;> (refine q2c (by simp [hb, hx] <;> rfl) ?_; dsimp only [goK])) | simp only [q0a, q0d] | (refine TW.cond hP rfl (fun hc => ?_) (fun hc => ?_) <;> simp at hc) | (refine TW.ret ⟨.inr rfl, _, _, rfl, rfl, ?_⟩; dsimp only [q0h])
  all_goals simp at hb
  ·rw [q2s, q2N hx]; simp; omega
  ·refine ⟨i + 1, by omega, trivial, ?_, by omega, by rw [hs, hall]; simp; omega⟩
   repeat' first | exact q0c | refine q0b (by simp [hav, w64s (show i < 9000000000000000000 by omega)]) ?_
  ·rw [q2s, q2N hx]; simp; omega
 ·simp at hc
  dsimp only [q0a]
  rw [List.take_of_length_le hc] at hall
  repeat' first | refine TW.seq ?_ | (refine TW.regG hP (by simp <;> rfl) ?_; dsimp only [goK]) | simp only [q0a] | (refine TW.ret ⟨.inr rfl, _, _, rfl, rfl, ?_⟩; dsimp only [q0h])
  rw [q2s, hall]
def q8K (t : List LType) (x : LType) : Bool := x.parts.list.all (q5y t) && (q5y t x.elem && (decide ((x.parts.list.length : Int) ≤ 4) && decide (x.many = 0)))
theorem mayFn3_pure (hP : POk Tryz.prog F gl K) (t : Sl LType) (x : LType) (hlen : x.parts.list.length < 1000000) : q0y Tryz.prog F q4n [t.av LType.cells, .agg x.cells] (.bool (q8K t.list x)) := by
  refine CallsT.pure (O := fun u _ => u = .bool (q8K t.list x)) (k := 1) (by simp) ?_ (fun u g e => by subst e; rfl)
  refine CallsT.body hP q0e z0T rfl rfl ?_
  repeat' first | refine TW.seq ?_ | refine TW.block ?_ | (refine TW.regG hP (by simp <;> rfl) ?_; dsimp only [goK])
  refine TW.loopL (fun i : Nat => [(0, t.av LType.cells), (3, .ptr 0 0), (4, .bool false), (5, .int .i64 i)]) (fun i g => i ≤ x.parts.list.length ∧ g.get 0 = some (.cells q1W x.cells) ∧ (x.parts.list.take i).all (q5y t.list) = true) (fun i => x.parts.list.length - i) (0) ?_ ?_ ?_
  focus (repeat' first | exact q0c | refine q0b (by simp) ?_)
  · simp
  rintro i g ⟨hi, hg, hall⟩
  dsimp only [q1W] at hg
  repeat' first | refine TW.seq ?_ | (refine TW.regG hP (by simp [hg] <;> rfl) ?_; dsimp only [goK]) | simp only [q0a]
  refine TW.cond hP rfl (fun hc => TW.skip ?_) (fun hc => TW.exit ?_)
  · simp at hc
    obtain ⟨k, hx⟩ := q0g hc
    have hav := q0z (e := cI) (show 0 < x.parts.list.length by omega)
    have hs := q3B (p := q5y t.list) hx
    dsimp only [q0a]
    repeat' first | refine TW.seq ?_ | refine TW.block ?_ | refine TW.skip ?_ | (refine TW.regG hP (by simp [hx, hav, hg] <;> rfl) ?_; dsimp only [goK]) | (refine TO.scall hP q4t (z0B hP t k) ?_ rfl rfl rfl rfl ?_; (focus (simp; done)); refine TO.runsG hP (by simp <;> rfl) ?_; dsimp only [goK]) | simp only [q0a, q0d] | (refine TW.cond hP rfl (fun hc => ?_) (fun hc => ?_) <;> simp at hc) | (refine TW.ret ⟨.inr rfl, _, _, rfl, rfl, ?_⟩; dsimp only [q0h])
    · rw [q8K, q2N hx hc]; rfl
    · refine ⟨i + 1, by omega, trivial, ?_, by omega, hg, by rw [hs, hall, hc]; rfl⟩
      repeat' first | exact q0c | refine q0b (by simp [w64s (show i < 9000000000000000000 by omega)]) ?_
  · simp at hc
    dsimp only [q0a]
    rw [List.take_of_length_le hc] at hall
    cases hp : q5y t.list x.elem with
    | false =>
      repeat' first | refine TW.seq ?_ | (refine TW.regG hP (by simp [hg] <;> rfl) ?_; dsimp only [goK]) | (refine TO.scall hP q4t (z0B hP t x.elem) ?_ rfl rfl rfl rfl ?_; (focus (simp; done)); refine TO.runsG hP (by simp [hp] <;> rfl) ?_; dsimp only [goK]) | simp only [q0a] | (refine TW.ret ⟨.inr rfl, _, _, rfl, rfl, ?_⟩; dsimp only [q0h])
      simp [q8K, hp]
    | true =>
      repeat' first | refine TW.seq ?_ | (refine TW.regG hP (by simp [hg] <;> rfl) ?_; dsimp only [goK]) | (refine q0E (fun hb => ?_) (fun hb => ?_) <;> (try simp only [Bool.not_eq_eq_eq_not, Bool.not_true, Bool.not_false] at hb) <;> (refine q2c (by simp [hb, hg] <;> rfl) ?_; dsimp only [goK])) | (refine TO.scall hP q4t (z0B hP t x.elem) ?_ rfl rfl rfl rfl ?_; (focus (simp; done)); refine TO.runsG hP (by simp [hg, hp] <;> rfl) ?_; dsimp only [goK]) | simp only [q0a] | (refine TW.ret ⟨.inr rfl, _, _, rfl, rfl, ?_⟩; dsimp only [q0h])
      all_goals (simp at hb; simp [q8K, hp, hall]; omega)
def q1z (t : List LType) (k : Nat) : Bool :=
  match t[k]? with
  | none => false
  | some x =>
    if x.kind = 1 then decide (x.elem = 0) && (decide (x.many = 0) && decide (x.parts.list.length = 0))
    else if x.kind = 2 then decide (0 ≤ x.elem) && (decide (x.elem < t.length) && (decide (x.many = 0) && decide (x.parts.list.length = 0)))
    else if x.kind = 3 then q8K t x
    else if x.kind = 4 then decide (x.elem = 0) && (decide (x.many = 0) && (decide ((1 : Int) ≤ x.parts.list.length) && (decide ((x.parts.list.length : Int) ≤ 8) && q2s x.parts.list k)))
    else if x.kind = 5 then decide (0 ≤ x.elem) && (decide (x.elem < k) && (decide (1 ≤ x.many) && (decide (x.many ≤ 16) && decide (x.parts.list.length = 0))))
    else false
theorem mayType3_pure (hP : POk Tryz.prog F gl K) (t : Sl LType) (k : Nat) (hk : k < t.list.length) (hp : ∀ x ∈ t.list, x.parts.list.length < 1000000) : q0y Tryz.prog F q3u [t.av LType.cells, .int .i64 k] (.bool (q1z t.list k)) := by
 refine CallsT.pure (O := fun u _ => u = .bool (q1z t.list k)) (k := 1) (by simp) ?_ (fun u g e => by subst e; rfl)
 refine CallsT.body hP q0e q9u rfl rfl ?_
 obtain ⟨x, hx⟩ := q0g hk
 have hpx := hp x (List.mem_of_getElem? hx)
 have hav := q0z (e := LType.cells) (show 0 < t.list.length by omega)
 repeat' first | refine TW.seq ?_ | refine TW.block ?_ | refine TW.skip ?_ | (refine TW.regG hP (by simp [hx, hav] <;> rfl) ?_; dsimp only [goK]) | (refine q0E (fun hb => ?_) (fun hb => ?_) <;> (try simp only [Bool.not_eq_eq_eq_not, Bool.not_true, Bool.not_false] at hb) <;> (refine q2c (by simp [hb] <;> rfl) ?_; dsimp only [goK])) | (refine TO.scall hP z0J (by have hpc := mayFn3_pure hP t x hpx; rw [hav] at hpc; exact hpc) ?_ rfl rfl rfl rfl ?_; (focus (simp; done)); refine TO.runsG hP (by simp <;> rfl) ?_; dsimp only [goK]) | (refine TO.scall hP z0K (lower3_pure hP x.parts k hpx) ?_ rfl rfl rfl rfl ?_; (focus (simp; done)); refine TO.runsG hP (by simp <;> rfl) ?_; dsimp only [goK]) | simp only [q0a] | (refine TW.cond hP rfl (fun hc => ?_) (fun hc => ?_) <;> simp at hc) | (refine TW.ret ⟨.inr rfl, _, _, rfl, rfl, ?_⟩; dsimp only [q0h])
 all_goals (simp_all [q1z]; try omega)
def ofN (t : List LType) : Nat → Nat → List Int
  | 0, _ => []
  | d + 1, k => match t[k]? with
    | none => []
    | some x => if x.kind = 4 then x.parts.list.flatMap (fun p => ofN t d p.toNat) else if x.kind = 5 then (List.replicate x.many.toNat (ofN t d x.elem.toNat)).flatten else [(k : Int)]
theorem ofN_succ {t : List LType} {d k : Nat} {x : LType} (hx : t[k]? = some x) : ofN t (d + 1) k = if x.kind = 4 then x.parts.list.flatMap (fun p => ofN t d p.toNat) else if x.kind = 5 then (List.replicate x.many.toNat (ofN t d x.elem.toNat)).flatten else [(k : Int)] := by
 conv => lhs; unfold ofN
 rw [hx]
def ofS (t : List LType) (k : Nat) : List Int := ofN t (k + 1) k
theorem ofN_eq {t : List LType} : ∀ {d e k : Nat}, (∀ j ≤ k, q1z t j = true) → k < d → k < e → ofN t d k = ofN t e k
  | 0, _, _, _, h, _ => absurd h (Nat.not_lt_zero _)
  | _ + 1, 0, _, _, _, h => absurd h (Nat.not_lt_zero _)
  | d + 1, e + 1, k, hm, h1, h2 => by
    unfold ofN
    cases hx : t[k]? with
    | none => rfl
    | some x =>
      have hk := hm k (Nat.le_refl _)
      unfold q1z at hk
      rw [hx] at hk
      dsimp only at hk ⊢
      split
      · rename_i h4
        have hl : q2s x.parts.list k = true := by
          simp [h4] at hk
          exact hk.2.2.2.2
        have e1 : ∀ l : List Int, (∀ p ∈ l, 0 ≤ p ∧ p < k) → l.flatMap (fun p => ofN t d p.toNat) = l.flatMap (fun p => ofN t e p.toNat) := fun l => by
          induction l with
          | nil => intro _; rfl
          | cons a l ih =>
            intro hp
            have ha := hp a List.mem_cons_self
            rw [List.flatMap_cons, List.flatMap_cons, ih fun p hp' => hp p (List.mem_cons_of_mem _ hp'), ofN_eq (fun j hj => hm j (by omega)) (by omega) (show a.toNat < e by omega)]
        exact e1 _ fun p hp => by
          have := List.all_eq_true.1 hl p hp
          simpa using this
      · split
        · rename_i h4 h5
          simp [h5] at hk
          rw [ofN_eq (e := e) (fun j hj => hm j (by omega)) (by omega) (by omega)]
        · rfl
theorem ofS_ne {t : List LType} : ∀ (k : Nat), k < t.length → (∀ j ≤ k, q1z t j = true) → ofS t k ≠ [] := by
  intro k
  induction k using Nat.strongRecOn with
  | _ k ih =>
  intro hk hm
  obtain ⟨x, hx⟩ := q0g hk
  have hmk := hm k (Nat.le_refl _)
  unfold q1z at hmk
  rw [hx] at hmk
  dsimp only at hmk
  have sub : ∀ p : Int, 0 ≤ p → p < k → ofN t k p.toNat ≠ [] := fun p h0 h1 => by
    rw [ofN_eq (e := p.toNat + 1) (fun j hj => hm j (by omega)) (by omega) (by omega)]
    exact ih p.toNat (by omega) (by omega) fun j hj => hm j (by omega)
  rw [show ofS t k = _ from ofN_succ hx]
  by_cases h4 : x.kind = 4
  · rw [if_pos h4]
    simp [h4] at hmk
    obtain ⟨_, _, hn1, _, hlow⟩ := hmk
    cases hl : x.parts.list with
    | nil => rw [hl] at hn1; simp at hn1
    | cons a l =>
      have := List.all_eq_true.1 hlow a (by rw [hl]; exact List.mem_cons_self)
      simp at this
      rw [List.flatMap_cons]
      intro e
      exact sub a this.1 this.2 (List.append_eq_nil_iff.1 e).1
  · rw [if_neg h4]
    by_cases h5 : x.kind = 5
    · rw [if_pos h5]
      simp [h5] at hmk
      obtain ⟨m, hm⟩ : ∃ m, x.many.toNat = m + 1 := ⟨x.many.toNat - 1, by omega⟩
      rw [hm, List.replicate_succ, List.flatten_cons]
      intro e
      exact sub x.elem hmk.1 hmk.2.1 (List.append_eq_nil_iff.1 e).1
    · rw [if_neg h5]; simp
theorem Of3_pure (hP : POk Tryz.prog F gl K) (t : Sl LType) (hp : ∀ x ∈ t.list, x.parts.list.length < 1000000) : ∀ (k : Nat), k < t.list.length → (∀ j ≤ k, q1z t.list j = true) → (∀ j < k, (ofS t.list j).length ≤ 32) →
    q0y Tryz.prog F q4b [t.av LType.cells, .int .i64 k] (.isl ((ofS t.list k).map cI)) := by
  intro k
  induction k using Nat.strongRecOn with
  | _ k ih =>
  intro hk hm hl
  obtain ⟨x, hx⟩ := q0g hk
  have hpx := hp x (List.mem_of_getElem? hx)
  have hav := q0z (e := LType.cells) (show 0 < t.list.length by omega)
  have hmk := hm k (Nat.le_refl _)
  have hof : ofS t.list k = if x.kind = 4 then x.parts.list.flatMap (fun p => ofN t.list k p.toNat) else if x.kind = 5 then (List.replicate x.many.toNat (ofN t.list k x.elem.toNat)).flatten else [(k : Int)] := ofN_succ hx
  unfold q1z at hmk
  rw [hx] at hmk
  dsimp only at hmk
  have sub : ∀ p : Int, 0 ≤ p → p < k → ofN t.list k p.toNat = ofS t.list p.toNat ∧ (ofS t.list p.toNat).length ≤ 32 ∧ q0y Tryz.prog F q4b [t.av LType.cells, .int .i64 p] (.isl ((ofS t.list p.toNat).map cI)) := fun p h0 h1 => by
    have e : ((p.toNat : Nat) : Int) = p := Int.toNat_of_nonneg h0
    refine ⟨ofN_eq (fun j hj => hm j (by omega)) (by omega) (by omega), hl _ (by omega), ?_⟩
    have := ih p.toNat (by omega) (by omega) (fun j hj => hm j (by omega)) (fun j hj => hl j (by omega))
    rwa [e] at this
  have hne := ofS_ne k hk hm
  refine CallsT.pure (O := fun u g => frzV 4 g u = some (.isl ((ofS t.list k).map cI))) (k := 4) (by simp [q2F q7d]) ?_ (fun u g e => e)
  refine CallsT.body hP q0e E_fescueref03_Of rfl rfl ?_
  by_cases h4 : x.kind = 4
  · rw [if_pos h4] at hof
    simp [h4] at hmk
    obtain ⟨_, _, hn1, hn2, hlow⟩ := hmk
    have hof' : ofS t.list k = x.parts.list.flatMap (fun q => ofS t.list q.toNat) := by
      rw [hof]
      have e1 : ∀ l : List Int, (∀ p ∈ l, 0 ≤ p ∧ p < k) → l.flatMap (fun p => ofN t.list k p.toNat) = l.flatMap (fun p => ofS t.list p.toNat) := fun l => by
        induction l with
        | nil => intro _; rfl
        | cons a l ih2 =>
          intro hp'
          have ha := hp' a List.mem_cons_self
          rw [List.flatMap_cons, List.flatMap_cons, ih2 fun p hp2 => hp' p (List.mem_cons_of_mem _ hp2), (sub a ha.1 ha.2).1]
      exact e1 _ fun p hp' => by
        have := List.all_eq_true.1 hlow p hp'
        simpa using this
    repeat' first | refine TW.seq ?_ | refine TW.block ?_ | refine TW.condT hP rfl ?_ | (refine TW.regG hP (by simp [hx, hav, h4] <;> rfl) ?_; dsimp only [goK])
    refine TW.loopL (fun p : Nat × AV => [(0, t.av LType.cells), (5, .ptr 0 0), (6, p.2), (7, .int .i64 p.1)]) (fun p g => p.1 ≤ x.parts.list.length ∧ g.get 0 = some (.cells q1W x.cells) ∧ 1 ≤ g.nx ∧ Own 1 q0C 1 g p.2 (((x.parts.list.take p.1).flatMap (fun q => ofS t.list q.toNat)).map cI)) (fun p => x.parts.list.length - p.1) ((0, .nilsl)) ?_ ?_ ?_
    focus (repeat' first | exact q0c | refine q0b (by simp [hav]) ?_)
    · refine ⟨Nat.zero_le _, ?_, ?_, .nil⟩ <;> simp [LType.cells, h4]
    rintro ⟨i, lv⟩ g ⟨hi, hg, hnx, hown⟩
    dsimp only [q1W, q0C] at hi hg hown ⊢
    repeat' first | refine TW.seq ?_ | (refine TW.regG hP (by simp [hg] <;> rfl) ?_; dsimp only [goK]) | simp only [q0a]
    refine TW.cond hP rfl (fun hc => TW.skip ?_) (fun hc => TW.exit ?_)
    · simp at hc
      obtain ⟨q, hq⟩ := q0g hc
      have hav2 := q0z (e := cI) (show 0 < x.parts.list.length by omega)
      have hq2 := List.all_eq_true.1 hlow q (List.mem_of_getElem? hq)
      simp at hq2
      obtain ⟨e1, e2, e3⟩ := sub q hq2.1 hq2.2
      have bnd := flatMap_bnd (f := fun q : Int => ofS t.list q.toNat) (c := 32) (l := x.parts.list.take i) fun p hp' => by
        have h8 := List.all_eq_true.1 hlow p (List.mem_of_mem_take hp')
        simp at h8
        exact (sub p h8.1 h8.2).2.1
      have bnd2 : (x.parts.list.take i).length ≤ 8 := by rw [List.length_take]; omega
      obtain ⟨lv', g', happ, hown', hwb⟩ := Own.more (x := .isl ((ofS t.list q.toNat).map cI)) (rows' := (ofS t.list q.toNat).map cI) (k := ((ofS t.list q.toNat).map cI).length) (q0Q (gl := gl) (K := K)) q3W hown q1a rfl rfl (src_isl q1a) q1a q6x (by simp only [List.length_map]; omega) hnx
      dsimp only [q0u] at happ
      rw [hav] at e3
      dsimp only [q0a]
      repeat' first | refine TW.seq ?_ | refine TW.block ?_ | (refine TW.regG hP (by simp [hq, hav2, hg, hav] <;> rfl) ?_; dsimp only [goK]) | (refine TO.scall hP q5T (e3) ?_ rfl rfl rfl rfl ?_; (focus (simp; done)); refine TO.runsG hP (by simp [happ] <;> rfl) ?_; dsimp only [goK]) | simp only [q0d]
      refine ⟨(i + 1, lv'), by dsimp only; omega, trivial, ?_, by dsimp only; omega, ?_, ?_, ?_⟩
      · repeat' first | exact q0c | refine q0b (by simp [w64s (show i < 9000000000000000000 by omega), hav]) ?_
      · rw [hwb.get 0 (by omega)]; exact hg
      · have := hwb.nx; omega
      · dsimp only; rw [flatMap_take_succ hq, List.map_append]; exact hown'
    · simp at hc
      dsimp only [q0a]
      rw [List.take_of_length_le hc] at hown
      repeat' first | refine TW.seq ?_ | (refine TW.regG hP (by simp <;> rfl) ?_; dsimp only [goK]) | simp only [q0a] | (refine TW.ret ⟨.inr rfl, _, _, rfl, rfl, ?_⟩; dsimp only [q0h])
      rw [hof']
      exact q8Y hown (by rw [← hof']; exact hne)
  · by_cases h5 : x.kind = 5
    · rw [if_neg h4, if_pos h5] at hof
      simp [h5] at hmk
      obtain ⟨hm1, hm2, hm3, hm4, _⟩ := hmk
      obtain ⟨e1, e2, e3⟩ := sub x.elem hm1 hm2
      rw [e1] at hof
      repeat' first | refine TW.seq ?_ | refine TW.block ?_ | refine TW.skip ?_ | refine TW.condT hP rfl ?_ | refine TW.condF hP rfl ?_ | (refine TW.regG hP (by simp [hx, hav, h5] <;> rfl) ?_; dsimp only [goK])
      refine TW.loopL (fun p : Nat × AV => [(0, t.av LType.cells), (5, .ptr 0 0), (8, p.2), (9, .int .i64 p.1)]) (fun p g => (p.1 : Int) ≤ x.many ∧ g.get 0 = some (.cells q1W x.cells) ∧ 1 ≤ g.nx ∧ Own 1 q0C 1 g p.2 (((List.replicate p.1 (ofS t.list x.elem.toNat)).flatten).map cI)) (fun p => x.many.toNat - p.1) ((0, .nilsl)) ?_ ?_ ?_
      focus (repeat' first | exact q0c | refine q0b (by simp [hav]) ?_)
      · refine ⟨by dsimp only; omega, ?_, ?_, .nil⟩ <;> simp [LType.cells, h5]
      rintro ⟨i, lv⟩ g ⟨hi, hg, hnx, hown⟩
      dsimp only [q1W, q0C] at hi hg hown ⊢
      repeat' first | refine TW.seq ?_ | (refine TW.regG hP (by simp [hg] <;> rfl) ?_; dsimp only [goK]) | simp only [q0a]
      refine TW.cond hP rfl (fun hc => TW.skip ?_) (fun hc => TW.exit ?_)
      · simp at hc
        have bnd : ((List.replicate i (ofS t.list x.elem.toNat)).flatten).length ≤ 32 * 16 := by
          have e : ∀ n : Nat, ((List.replicate n (ofS t.list x.elem.toNat)).flatten).length = n * (ofS t.list x.elem.toNat).length := fun n => by simp
          rw [e]
          exact Nat.le_trans (Nat.mul_le_mul (show i ≤ 16 by omega) e2) (by omega)
        obtain ⟨lv', g', happ, hown', hwb⟩ := Own.more (x := .isl ((ofS t.list x.elem.toNat).map cI)) (rows' := (ofS t.list x.elem.toNat).map cI) (k := ((ofS t.list x.elem.toNat).map cI).length) (q0Q (gl := gl) (K := K)) q3W hown q1a rfl rfl (src_isl q1a) q1a q6x (by simp only [List.length_map]; omega) hnx
        dsimp only [q0u] at happ
        have e3' := e3
        rw [hav] at e3'
        dsimp only [q0a]
        repeat' first | refine TW.seq ?_ | refine TW.block ?_ | (refine TW.regG hP (by simp [hg, hav] <;> rfl) ?_; dsimp only [goK]) | (refine TO.scall hP q5T (e3') ?_ rfl rfl rfl rfl ?_; (focus (simp; done)); refine TO.runsG hP (by simp [happ] <;> rfl) ?_; dsimp only [goK]) | simp only [q0d]
        refine ⟨(i + 1, lv'), by dsimp only; omega, trivial, ?_, by dsimp only; omega, ?_, ?_, ?_⟩
        · repeat' first | exact q0c | refine q0b (by simp [w64s (show i < 9000000000000000000 by omega), hav]) ?_
        · rw [hwb.get 0 (by omega)]; exact hg
        · have := hwb.nx; omega
        · dsimp only
          rw [List.replicate_succ', List.flatten_append, List.map_append]
          simpa using hown'
      · simp at hc
        dsimp only [q0a]
        have : i = x.many.toNat := by omega
        subst this
        repeat' first | refine TW.seq ?_ | (refine TW.regG hP (by simp <;> rfl) ?_; dsimp only [goK]) | simp only [q0a] | (refine TW.ret ⟨.inr rfl, _, _, rfl, rfl, ?_⟩; dsimp only [q0h])
        rw [hof]
        exact q8Y hown (by rw [← hof]; exact hne)
    · rw [if_neg h4, if_neg h5] at hof
      repeat' first | refine TW.seq ?_ | refine TW.skip ?_ | refine TW.condF hP rfl ?_ | (refine TW.regG hP (by simp [hx, hav, h4, h5] <;> rfl) ?_; dsimp only [goK]) | simp only [q0a] | (refine TW.ret ⟨.inr rfl, _, _, rfl, rfl, ?_⟩; dsimp only [q0h])
      rw [hof]
      simp [frzV, mapO, chunks, q5O]
def q3T (t : List LType) (k : Nat) : Bool := q1z t k && decide ((ofS t k).length ≤ 32)
def q5U (t : List LType) : Int := if 16 < t.length then 4 else if (List.range t.length).all (q3T t) = true then 0 else 30
theorem Check3_pure (hP : POk Tryz.prog F gl K) (t : Sl LType) (hp : ∀ x ∈ t.list, x.parts.list.length < 1000000) (hlen : t.list.length < 1000000) : q0y Tryz.prog F q4r [t.av LType.cells] (.int .i64 (q5U t.list)) := by
  refine CallsT.pure (O := fun u _ => u = .int .i64 (q5U t.list)) (k := 1) (by simp) ?_ (fun u g e => by subst e; rfl)
  refine CallsT.body hP q0e z0X rfl rfl ?_
  repeat' first | refine TW.seq ?_ | refine TW.block ?_ | refine TW.skip ?_ | (refine TW.regG hP (by simp <;> rfl) ?_; dsimp only [goK]) | simp only [q0a] | (refine TW.cond hP rfl (fun hc => ?_) (fun hc => ?_) <;> simp at hc) | (refine TW.ret ⟨.inr rfl, _, _, rfl, rfl, ?_⟩; dsimp only [q0h])
  · have : 16 < t.list.length := by omega
    simp [q5U, this]
  · have h16 : ¬ 16 < t.list.length := by omega
    refine TW.loopL (fun i : Nat => [(0, t.av LType.cells), (2, .int .i64 0), (3, .int .i64 i)]) (fun i _ => i ≤ t.list.length ∧ ∀ j < i, q3T t.list j = true) (fun i => t.list.length - i) (0) ?_ ?_ ?_
    focus (repeat' first | exact q0c | refine q0b (by simp) ?_)
    · exact ⟨Nat.zero_le _, fun j hj => absurd hj (Nat.not_lt_zero _)⟩
    rintro i g ⟨hi, hall⟩
    have bad : i < t.list.length → q3T t.list i = false → AV.int .i64 30 = .int .i64 (q5U t.list) := fun h1 h2 => by
      have : ¬ (List.range t.list.length).all (q3T t.list) = true := fun h => by
        have := List.all_eq_true.1 h i (List.mem_range.2 h1)
        rw [h2] at this; cases this
      rw [q5U, if_neg h16, if_neg this]
    repeat' first | refine TW.seq ?_ | (refine TW.regG hP (by simp <;> rfl) ?_; dsimp only [goK]) | simp only [q0a]
    refine TW.cond hP rfl (fun hc => TW.skip ?_) (fun hc => TW.exit ?_)
    · simp at hc
      have hi2 := hc
      have e1 := mayType3_pure hP t i hc hp
      dsimp only [q0a]
      cases hm : q1z t.list i with
      | false =>
        repeat' first | refine TW.seq ?_ | refine TW.block ?_ | refine TW.condT hP rfl ?_ | (refine TW.regG hP (by simp <;> rfl) ?_; dsimp only [goK]) | (refine TO.scall hP q5F (e1) ?_ rfl rfl rfl rfl ?_; (focus (simp; done)); refine TO.runsG hP (by simp [hm] <;> rfl) ?_; dsimp only [goK]) | simp only [q0a] | (refine TW.ret ⟨.inr rfl, _, _, rfl, rfl, ?_⟩; dsimp only [q0h])
        exact bad hc (by simp [q3T, hm])
      | true =>
        have e2 := Of3_pure hP t hp i hc (fun j hj => by
          by_cases h : j = i
          · rw [h]; exact hm
          · have := hall j (by omega); simp [q3T] at this; exact this.1) (fun j hj => by have := hall j hj; simp [q3T] at this; exact this.2)
        repeat' first | refine TW.seq ?_ | refine TW.block ?_ | refine TW.skip ?_ | (refine TW.regG hP (by simp <;> rfl) ?_; dsimp only [goK]) | (refine TO.scall hP q5F (e1) ?_ rfl rfl rfl rfl ?_; (focus (simp; done)); refine TO.runsG hP (by simp [hm] <;> rfl) ?_; dsimp only [goK]) | (refine TO.scall hP q5T (e2) ?_ rfl rfl rfl rfl ?_; (focus (simp; done)); refine TO.runsG hP (by simp <;> rfl) ?_; dsimp only [goK]) | simp only [q0a, q0d] | (refine TW.cond hP rfl (fun hc => ?_) (fun hc => ?_) <;> simp at hc) | (refine TW.ret ⟨.inr rfl, _, _, rfl, rfl, ?_⟩; dsimp only [q0h])
        · exact bad hi2 (by simp [q3T, hm]; omega)
        · refine ⟨i + 1, by omega, trivial, ?_, by omega, fun j hj => ?_⟩
          · repeat' first | exact q0c | refine q0b (by simp [w64s (show i < 9000000000000000000 by omega)]) ?_
          · by_cases h : j = i
            · rw [h]; simp [q3T, hm]; omega
            · exact hall j (by omega)
    · simp at hc
      dsimp only [q0a]
      repeat' first | refine TW.seq ?_ | (refine TW.regG hP (by simp <;> rfl) ?_; dsimp only [goK]) | simp only [q0a] | (refine TW.ret ⟨.inr rfl, _, _, rfl, rfl, ?_⟩; dsimp only [q0h])
      have : (List.range t.list.length).all (q3T t.list) = true := List.all_eq_true.2 fun j hj => hall j (by have := List.mem_range.1 hj; omega)
      rw [q5U, if_neg h16, if_pos this]
def two6 (op : Int) : Bool := (decide (4 ≤ op) && decide (op ≤ 10)) || (decide (op = 15) || decide (op = 17))
theorem z1q (hP : POk Tryz.prog F gl K) (op : Int) : q0y Tryz.prog F q5w [.int .u8 op] (.bool (two6 op)) := by
 refine CallsT.pure (O := fun u _ => u = .bool (two6 op)) (k := 1) (by simp) ?_ (fun u g e => by subst e; rfl)
 refine CallsT.body hP q0e E_fescueref06_two rfl rfl ?_
 repeat' first | refine TW.seq ?_ | (refine TW.regG hP (by simp <;> rfl) ?_; dsimp only [goK]) | (refine q0E (fun hb => ?_) (fun hb => ?_) <;> (try simp only [Bool.not_eq_eq_eq_not, Bool.not_true, Bool.not_false] at hb) <;> (refine q2c (by simp [hb] <;> rfl) ?_; dsimp only [goK])) | simp only [q0a] | (refine TW.ret ⟨.inr rfl, _, _, rfl, rfl, ?_⟩; dsimp only [q0h])
 all_goals (simp_all [two6]; try omega)
def q2Y (op : Int) : Bool := two6 op || (decide (op = 13) || (decide (op = 14) || (decide (op = 16) || (decide (op = 19) || decide (op = 21)))))
theorem q7w (hP : POk Tryz.prog F gl K) (op : Int) : q0y Tryz.prog F q5a [.int .u8 op] (.bool (q2Y op)) := by
 refine CallsT.pure (O := fun u _ => u = .bool (q2Y op)) (k := 1) (by simp) ?_ (fun u g e => by subst e; rfl)
 refine CallsT.body hP q0e E_fescueref06_HasA rfl rfl ?_
 repeat' first | refine TW.seq ?_ | (refine TW.regG hP (by simp <;> rfl) ?_; dsimp only [goK]) | (refine q0E (fun hb => ?_) (fun hb => ?_) <;> (try simp only [Bool.not_eq_eq_eq_not, Bool.not_true, Bool.not_false] at hb) <;> (refine q2c (by simp [hb] <;> rfl) ?_; dsimp only [goK])) | (refine TO.scall hP q3C (z1q hP op) ?_ rfl rfl rfl rfl ?_; (focus (simp; done)); refine TO.runsG hP (by simp <;> rfl) ?_; dsimp only [goK]) | simp only [q0a] | (refine TW.ret ⟨.inr rfl, _, _, rfl, rfl, ?_⟩; dsimp only [q0h])
 all_goals (simp_all [q2Y]; try omega)
def q1L (op : Int) : Bool := decide (op = 18) || (decide (op = 19) || decide (op = 22))
theorem q7Z (hP : POk Tryz.prog F gl K) (op : Int) : q0y Tryz.prog F q3s [.int .u8 op] (.bool (q1L op)) := by
 refine CallsT.pure (O := fun u _ => u = .bool (q1L op)) (k := 1) (by simp) ?_ (fun u g e => by subst e; rfl)
 refine CallsT.body hP q0e q9s rfl rfl ?_
 repeat' first | refine TW.seq ?_ | (refine TW.regG hP (by simp <;> rfl) ?_; dsimp only [goK]) | (refine q0E (fun hb => ?_) (fun hb => ?_) <;> (try simp only [Bool.not_eq_eq_eq_not, Bool.not_true, Bool.not_false] at hb) <;> (refine q2c (by simp [hb] <;> rfl) ?_; dsimp only [goK])) | simp only [q0a] | (refine TW.ret ⟨.inr rfl, _, _, rfl, rfl, ?_⟩; dsimp only [q0h])
 all_goals (simp_all [q1L]; try omega)
def q3z (op : Int) : Bool := decide (1 ≤ op) && (decide (op ≤ 22) && (!decide (op = 13) && (!decide (op = 17) && !decide (op = 21))))
theorem answers6_pure (hP : POk Tryz.prog F gl K) (op : Int) : q0y Tryz.prog F q3t [.int .u8 op] (.bool (q3z op)) := by
 refine CallsT.pure (O := fun u _ => u = .bool (q3z op)) (k := 1) (by simp) ?_ (fun u g e => by subst e; rfl)
 refine CallsT.body hP q0e q9t rfl rfl ?_
 repeat' first | refine TW.seq ?_ | (refine TW.regG hP (by simp <;> rfl) ?_; dsimp only [goK]) | (refine q0E (fun hb => ?_) (fun hb => ?_) <;> (try simp only [Bool.not_eq_eq_eq_not, Bool.not_true, Bool.not_false] at hb) <;> (refine q2c (by simp [hb] <;> rfl) ?_; dsimp only [goK])) | simp only [q0a] | (refine TW.ret ⟨.inr rfl, _, _, rfl, rfl, ?_⟩; dsimp only [q0h])
 all_goals (simp_all [q3z]; try omega)
def mayN6 (nf : Int) (x : LIns) : Bool :=
 if x.op = 1 then true else if x.op = 3 ∨ x.op = 18 then decide (0 ≤ x.n) && decide (x.n < nf) else if x.op = 14 then decide (0 ≤ x.n) && decide (x.n < 8) else decide (x.n = 0)
theorem mayN6_pure (hP : POk Tryz.prog F gl K) (p : LProg) (x : LIns) : q0y Tryz.prog F q4V [.agg p.cells, .agg x.cells] (.bool (mayN6 p.funcs.list.length x)) := by
 refine CallsT.pure (O := fun u _ => u = .bool (mayN6 p.funcs.list.length x)) (k := 1) (by simp) ?_ (fun u g e => by subst e; rfl)
 refine CallsT.body hP q0e E_fescueref06_mayN rfl rfl ?_
 repeat' first | refine TW.seq ?_ | refine TW.block ?_ | refine TW.skip ?_ | (refine TW.regG hP (by simp <;> rfl) ?_; dsimp only [goK]) | (refine q0E (fun hb => ?_) (fun hb => ?_) <;> (try simp only [Bool.not_eq_eq_eq_not, Bool.not_true, Bool.not_false] at hb) <;> (refine q2c (by simp [hb] <;> rfl) ?_; dsimp only [goK])) | simp only [q0a] | (refine TW.cond hP rfl (fun hc => ?_) (fun hc => ?_) <;> simp at hc) | (refine TW.ret ⟨.inr rfl, _, _, rfl, rfl, ?_⟩; dsimp only [q0h])
 all_goals (simp_all [mayN6]; try omega)
theorem q6C (hP : POk Tryz.prog F gl K) (l : Sl Int) (k : Int) (hlen : l.list.length < 1000000) : q0y Tryz.prog F q4j [l.av cI, .int .i64 k] (.bool (q2s l.list k)) := by
 refine CallsT.pure (O := fun u _ => u = .bool (q2s l.list k)) (k := 1) (by simp) ?_ (fun u g e => by subst e; rfl)
 refine CallsT.body hP q0e z0O rfl rfl ?_
 repeat' first | refine TW.seq ?_ | refine TW.block ?_ | (refine TW.regG hP (by simp <;> rfl) ?_; dsimp only [goK])
 refine TW.loopL (fun i : Nat => [(0, l.av cI), (1, .int .i64 k), (4, .bool false), (5, .int .i64 i)]) (fun i _ => i ≤ l.list.length ∧ (l.list.take i).all (fun n => decide (0 ≤ n) && decide (n < k)) = true) (fun i => l.list.length - i) (0) ?_ ?_ ?_
 focus (repeat' first | exact q0c | refine q0b (by simp) ?_)
 ·simp
 rintro i g ⟨hi, hall⟩
 repeat' first | refine TW.seq ?_ | (refine TW.regG hP (by simp <;> rfl) ?_; dsimp only [goK]) | simp only [q0a]
 refine TW.cond hP rfl (fun hc => TW.skip ?_) (fun hc => TW.exit ?_)
 ·simp at hc
  obtain ⟨x, hx⟩ := q0g hc
  have hav := q0z (e := cI) (show 0 < l.list.length by omega)
  have hs := q3B (p := fun n => decide (0 ≤ n) && decide (n < k)) hx
  dsimp only [q0a]
  repeat' first | refine TW.seq ?_ | refine TW.block ?_ | refine TW.skip ?_ | refine TW.condT hP rfl ?_ | (refine TW.regG hP (by simp [hx, hav] <;> rfl) ?_; dsimp only [goK]) | (refine q0E (fun hb => ?_) (fun hb => ?_) <;> (try simp only [Bool.not_eq_eq_eq_not, Bool.not_true, Bool.not_false] at hb) <;> (refine q2c (by simp [hb, hx] <;> rfl) ?_; dsimp only [goK])) | simp only [q0a, q0d] | (refine TW.cond hP rfl (fun hc => ?_) (fun hc => ?_) <;> simp at hc) | (refine TW.ret ⟨.inr rfl, _, _, rfl, rfl, ?_⟩; dsimp only [q0h])
  all_goals simp at hb
  ·rw [q2s, q2N hx]; simp; omega
  ·refine ⟨i + 1, by omega, trivial, ?_, by omega, by rw [hs, hall]; simp; omega⟩
   repeat' first | exact q0c | refine q0b (by simp [hav, w64s (show i < 9000000000000000000 by omega)]) ?_
  ·rw [q2s, q2N hx]; simp; omega
 ·simp at hc
  dsimp only [q0a]
  rw [List.take_of_length_le hc] at hall
  repeat' first | refine TW.seq ?_ | (refine TW.regG hP (by simp <;> rfl) ?_; dsimp only [goK]) | simp only [q0a] | (refine TW.ret ⟨.inr rfl, _, _, rfl, rfl, ?_⟩; dsimp only [q0h])
  rw [q2s, hall]
def q2g (x : LEnd) : List Int := if x.kind = 2 ∨ x.kind = 3 then [x.a] else []
def slOf (l : List Int) : AV := match l with | [] => .nilsl | l => .isl (l.map cI)
theorem ends6_pure (hP : POk Tryz.prog F gl K) (x : LEnd) : q0y Tryz.prog F q5b [.agg x.cells] (slOf (q2g x)) := by
 refine CallsT.pure (O := fun u g => frzV 3 g u = some (slOf (q2g x))) (k := 3) (by simp) ?_ (fun u g e => e)
 refine CallsT.body hP q0e E_fescueref06_Ends rfl rfl ?_
 repeat' first | refine TW.seq ?_ | refine TW.skip ?_ | refine TW.condT hP rfl ?_ | (refine TW.regG hP (by simp <;> rfl) ?_; dsimp only [goK]) | (refine q0E (fun hb => ?_) (fun hb => ?_) <;> (try simp only [Bool.not_eq_eq_eq_not, Bool.not_true, Bool.not_false] at hb) <;> (refine q2c (by simp [hb] <;> rfl) ?_; dsimp only [goK])) | simp only [q0a] | (refine TW.cond hP rfl (fun hc => ?_) (fun hc => ?_) <;> simp at hc) | (refine TW.ret ⟨.inr rfl, _, _, rfl, rfl, ?_⟩; dsimp only [q0h])
 ·rw [show q2g x = [x.a] from if_pos (.inr hc)]
  simp [slOf, frzV, mapO, chunks, q5O]
 ·simp at hb
  rw [show q2g x = [] from if_neg (by omega)]
  simp [slOf, frzV]
 ·simp at hb
  rw [show q2g x = [x.a] from if_pos (.inl hb)]
  simp [slOf, frzV, mapO, chunks, q5O]
def q2f (x : LIns) : List Int := (if q2Y x.op = true then [x.a] else []) ++ ((if two6 x.op = true then [x.b] else []) ++ (if q1L x.op = true then x.args.list else []))
theorem own_slOf {h : Hp} {b k : Nat} {v : AV} {l : List Int} (ho : Own 1 q0C b h v (l.map cI)) : frzV (k + 2) h v = some (slOf l) := by
  cases l with
  | nil =>
    rcases ho with ⟨rfl, _⟩ | ⟨h1, _⟩
    · rfl
    · exact absurd rfl h1
  | cons a l => exact q8Y ho (by simp)
theorem lenA_ints (x : Sl Int) : lenA (x.av cI) = some (x.list.map cI).length := by rw [lenA_av]; simp
theorem src_ints {h : Hp} (x : Sl Int) : q1e h 1 (x.list.map cI).length (x.av cI) = some (x.list.map cI).flatten := by
 cases x with
 | nil => rfl
 | mk l => exact src_isl q1a
theorem uses6_pure (hP : POk Tryz.prog F gl K) (x : LIns) (hlen : x.args.list.length < 900000) : q0y Tryz.prog F q4W [.agg x.cells] (slOf (q2f x)) := by
  refine CallsT.pure (O := fun u g => frzV 3 g u = some (slOf (q2f x))) (k := 3) (by simp) ?_ (fun u g e => e)
  refine CallsT.body hP q0e E_fescueref06_Uses rfl rfl ?_
  refine TW.seq (TW.regG hP (by simp <;> rfl) ?_)
  dsimp only [goK, q0a, q0f, q0d]
  refine TW.seq (TW.regG hP (by simp <;> rfl) ?_)
  dsimp only [goK, q0a, q0f, q0d]
  refine TW.gen (fun g => g.get 0 = some (.cells q0M x.cells) ∧ 1 ≤ g.nx) ⟨by simp, by simp⟩ fun g hgg => ?_
  obtain ⟨hg, hnx⟩ := hgg
  dsimp only [q0M] at hg
  refine TW.join (fun v : AV => [(1, .ptr 0 0), (3, v)]) (fun v g => g.get 0 = some (.cells q0M x.cells) ∧ 1 ≤ g.nx ∧ Own 1 q0C 1 g v ((if q2Y x.op = true then [x.a] else []).map cI)) ?_ ?_
  · cases hA : q2Y x.op with
    | true =>
      obtain ⟨v', k', happ, hown', hwb, hnx'⟩ := (Own.nil (es := 1) (eT := q0C) (b := 1) (h := g)).push (t := q0u) (row := [.int .i64 x.a]) (q0Q (gl := gl) (K := K)) (fun c hc => by cases hc) rfl rfl (by simp) hnx
      dsimp only [q0u, q0C] at happ
      repeat' first | refine TW.seq ?_ | refine TW.condT hP rfl ?_ | (refine TW.regG hP (by simp [hg, happ] <;> rfl) ?_; dsimp only [goK]) | (refine TO.scall hP q2B (q7w hP x.op) ?_ rfl rfl rfl rfl ?_; (focus (simp; done)); refine TO.runsG hP (by simp [hA] <;> rfl) ?_; dsimp only [goK]) | simp only [↓reduceIte]
      refine ⟨v', rfl, ?_, ?_, by omega, hown'⟩
      · repeat' first | exact q0c | refine q0b (by simp) ?_
      · rw [hwb.get 0 (by omega)]; exact hg
    | false =>
      repeat' first | refine TW.seq ?_ | refine TW.skip ?_ | refine TW.condF hP rfl ?_ | (refine TW.regG hP (by simp [hg] <;> rfl) ?_; dsimp only [goK]) | (refine TO.scall hP q2B (q7w hP x.op) ?_ rfl rfl rfl rfl ?_; (focus (simp; done)); refine TO.runsG hP (by simp [hA] <;> rfl) ?_; dsimp only [goK]) | simp only [↓reduceIte, reduceCtorEq]
      refine ⟨.nilsl, rfl, ?_, hg, hnx, .nil⟩
      repeat' first | exact q0c | refine q0b (by simp) ?_
  rintro v g ⟨hg, hnx, hown⟩
  dsimp only [q0M, q0C] at hg hown
  refine TW.join (fun v : AV => [(1, .ptr 0 0), (3, v)]) (fun v g => g.get 0 = some (.cells q0M x.cells) ∧ 1 ≤ g.nx ∧ Own 1 q0C 1 g v (((if q2Y x.op = true then [x.a] else []) ++ (if two6 x.op = true then [x.b] else [])).map cI)) ?_ ?_
  · cases h2 : two6 x.op with
    | true =>
      obtain ⟨v', k', happ, hown', hwb, hnx'⟩ := hown.push (t := q0u) (row := [.int .i64 x.b]) (q0Q (gl := gl) (K := K)) q1a rfl rfl (by split <;> simp) hnx
      dsimp only [q0u, q0C] at happ
      repeat' first | refine TW.seq ?_ | refine TW.condT hP rfl ?_ | (refine TW.regG hP (by simp [hg, happ] <;> rfl) ?_; dsimp only [goK]) | (refine TO.scall hP q3C (z1q hP x.op) ?_ rfl rfl rfl rfl ?_; (focus (simp; done)); refine TO.runsG hP (by simp [h2] <;> rfl) ?_; dsimp only [goK]) | simp only [↓reduceIte]
      refine ⟨v', rfl, ?_, ?_, by omega, ?_⟩
      · repeat' first | exact q0c | refine q0b (by simp) ?_
      · rw [hwb.get 0 (by omega)]; exact hg
      · rw [List.map_append]; exact hown'
    | false =>
      repeat' first | refine TW.seq ?_ | refine TW.skip ?_ | refine TW.condF hP rfl ?_ | (refine TW.regG hP (by simp [hg] <;> rfl) ?_; dsimp only [goK]) | (refine TO.scall hP q3C (z1q hP x.op) ?_ rfl rfl rfl rfl ?_; (focus (simp; done)); refine TO.runsG hP (by simp [h2] <;> rfl) ?_; dsimp only [goK]) | simp only [↓reduceIte, reduceCtorEq]
      refine ⟨v, rfl, ?_, hg, hnx, by simpa using hown⟩
      repeat' first | exact q0c | refine q0b (by simp) ?_
  rintro v g ⟨hg, hnx, hown⟩
  dsimp only [q0M, q0C] at hg hown
  refine TW.join (fun v : AV => [(1, .ptr 0 0), (3, v)]) (fun v g => Own 1 q0C 1 g v ((q2f x).map cI)) ?_ ?_
  · cases h2 : q1L x.op with
    | true =>
      obtain ⟨v', k', happ, hown', hwb⟩ := Own.more (x := x.args.av cI) (rows' := x.args.list.map cI) (q0Q (gl := gl) (K := K)) q3W hown q1a (lenA_ints _) rfl (src_ints _) q1a q6x (by simp only [List.length_map, List.length_append]; (repeat' split) <;> simp <;> omega) hnx
      dsimp only [q0u, q0C] at happ
      repeat' first | refine TW.seq ?_ | refine TW.condT hP rfl ?_ | (refine TW.regG hP (by simp [hg, happ] <;> rfl) ?_; dsimp only [goK]) | (refine TO.scall hP q3v (q7Z hP x.op) ?_ rfl rfl rfl rfl ?_; (focus (simp; done)); refine TO.runsG hP (by simp [h2] <;> rfl) ?_; dsimp only [goK])
      refine ⟨v', rfl, ?_, ?_⟩
      · repeat' first | exact q0c | refine q0b (by simp) ?_
      · rw [← List.map_append] at hown'; simpa [q2f, h2] using hown'
    | false =>
      repeat' first | refine TW.seq ?_ | refine TW.skip ?_ | refine TW.condF hP rfl ?_ | (refine TW.regG hP (by simp [hg] <;> rfl) ?_; dsimp only [goK]) | (refine TO.scall hP q3v (q7Z hP x.op) ?_ rfl rfl rfl rfl ?_; (focus (simp; done)); refine TO.runsG hP (by simp [h2] <;> rfl) ?_; dsimp only [goK])
      refine ⟨v, rfl, ?_, by simpa [q2f, h2] using hown⟩
      repeat' first | exact q0c | refine q0b (by simp) ?_
  rintro v g hown
  repeat' first | refine TW.seq ?_ | (refine TW.regG hP (by simp <;> rfl) ?_; dsimp only [goK]) | simp only [q0a] | (refine TW.ret ⟨.inr rfl, _, _, rfl, rfl, ?_⟩; dsimp only [q0h])
  exact own_slOf hown
def slL (l : List Int) : Sl Int := match l with | [] => .nil | l => .mk l
theorem slL_list (l : List Int) : (slL l).list = l := by cases l <;> rfl
theorem slOf_av (l : List Int) : slOf l = (slL l).av cI := by cases l <;> rfl
def mayInsA (nf : Int) (x : LIns) (regs : Int) : Bool := (decide (x.op < 1) || decide (22 < x.op)) || (!q2s (q2f x) regs || !mayN6 nf x)
def mayInsB (x : LIns) : Bool := (!q2Y x.op && !decide (x.a = 0)) || ((!two6 x.op && !decide (x.b = 0)) || (!q1L x.op && decide ((0 : Int) < x.args.list.length)))
def mayInsC (nt : Int) (x : LIns) : Bool := (q3z x.op && (decide (x.type < 0) || decide (nt ≤ x.type))) || (!q3z x.op && !decide (x.type = 0))
def mayInsD (x : LIns) (many : Int) : Bool := if x.op = 22 then decide ((x.frm.list.length : Int) = x.args.list.length) && (decide ((1 : Int) ≤ x.frm.list.length) && (decide ((x.frm.list.length : Int) ≤ 16) && q2s x.frm.list many)) else decide ((x.frm.list.length : Int) = 0) && decide ((x.args.list.length : Int) ≤ 4)
def q2a (nt nf : Int) (x : LIns) (regs many : Int) : Bool := !mayInsA nf x regs && (!mayInsB x && (!mayInsC nt x && mayInsD x many))
theorem mayIns6_pure (hP : POk Tryz.prog F gl K) (p : LProg) (x : LIns) (regs many : Int) (h1 : x.args.list.length < 900000) (h2 : x.frm.list.length < 900000) : q0y Tryz.prog F q1X [.agg p.cells, .agg x.cells, .int .i64 regs, .int .i64 many] (.bool (q2a p.types.list.length p.funcs.list.length x regs many)) := by
 refine CallsT.pure (O := fun u _ => u = .bool (q2a p.types.list.length p.funcs.list.length x regs many)) (k := 1) (by simp) ?_ (fun u g e => by subst e; rfl)
 refine CallsT.body hP q0e q9U rfl rfl ?_
 have e1 := uses6_pure hP x h1
 rw [slOf_av] at e1
 have hul : (q2f x).length < 1000000 := by
  unfold q2f
  simp only [List.length_append]
  (repeat' split) <;> simp <;> omega
 have e2 := q6C hP (slL (q2f x)) regs (by rw [slL_list]; exact hul)
 rw [slL_list] at e2
 have e3 := mayN6_pure hP p x
 refine TW.seq (TW.regG hP (by simp <;> rfl) ?_)
 dsimp only [goK, q0a, q0f, q0d]
 refine TW.gen (fun g => g.get 0 = some (.cells q0k p.cells) ∧ g.get 1 = some (.cells q0M x.cells)) ⟨by simp, by simp⟩ fun g hgg => ?_
 obtain ⟨hg0, hg1⟩ := hgg
 dsimp only [q0M, q0k] at hg0 hg1
 refine TW.join (fun _ : Unit => [(2, .int .i64 regs), (3, .int .i64 many), (4, .ptr 0 0), (5, .ptr 1 0)]) (fun _ g => g.get 0 = some (.cells q0k p.cells) ∧ g.get 1 = some (.cells q0M x.cells) ∧ mayInsA p.funcs.list.length x regs = false) ?_ ?_
 ·repeat' first | refine TW.seq ?_ | refine TW.skip ?_ | refine TW.condT hP rfl ?_ | (refine TW.regG hP (by simp [hg1] <;> rfl) ?_; dsimp only [goK]) | (refine q0E (fun hb => ?_) (fun hb => ?_) <;> (try simp only [Bool.not_eq_eq_eq_not, Bool.not_true, Bool.not_false] at hb) <;> (refine q2c (by simp [hb, hg0, hg1] <;> rfl) ?_; dsimp only [goK])) | (refine TO.scall hP q2A (e1) ?_ rfl rfl rfl rfl ?_; (focus (simp; done)); refine TO.runsG hP (by simp <;> rfl) ?_; dsimp only [goK]) | (refine TO.scall hP q2l (e2) ?_ rfl rfl rfl rfl ?_; (focus (simp; done)); refine TO.runsG hP (by simp <;> rfl) ?_; dsimp only [goK]) | (refine TO.scall hP I_fescueref06_mayN (e3) ?_ rfl rfl rfl rfl ?_; (focus (simp; done)); refine TO.runsG hP (by simp <;> rfl) ?_; dsimp only [goK]) | simp only [q0a] | (refine TW.cond hP rfl (fun hc => ?_) (fun hc => ?_) <;> simp at hc) | (refine TW.ret ⟨.inr rfl, _, _, rfl, rfl, ?_⟩; dsimp only [q0h])
  all_goals first | (refine ⟨(), rfl, ?_, hg0, hg1, ?_⟩ <;> first | (focus ((repeat' first | exact q0c | refine q0b (by simp) ?_); done)) | (focus (simp_all [mayInsA]; done))) | (focus (simp_all [q2a, mayInsA]; done))
 rintro _ g ⟨hg0, hg1, hA⟩
 dsimp only [q0M, q0k] at hg0 hg1
 refine TW.join (fun _ : Unit => [(2, .int .i64 regs), (3, .int .i64 many), (4, .ptr 0 0), (5, .ptr 1 0)]) (fun _ g => g.get 0 = some (.cells q0k p.cells) ∧ g.get 1 = some (.cells q0M x.cells) ∧ mayInsB x = false) ?_ ?_
 ·repeat' first | refine TW.seq ?_ | refine TW.skip ?_ | refine TW.condT hP rfl ?_ | refine TW.condF hP rfl ?_ | (refine TW.regG hP (by simp [hg1] <;> rfl) ?_; dsimp only [goK]) | (refine q0E (fun hb => ?_) (fun hb => ?_) <;> (try simp only [Bool.not_eq_eq_eq_not, Bool.not_true, Bool.not_false] at hb) <;> (refine q2c (by simp [hb, hg1] <;> rfl) ?_; dsimp only [goK])) | (refine TO.scall hP q2B (q7w hP x.op) ?_ rfl rfl rfl rfl ?_; (focus (simp; done)); refine TO.runsG hP (by simp <;> rfl) ?_; dsimp only [goK]) | (refine TO.scall hP q3C (z1q hP x.op) ?_ rfl rfl rfl rfl ?_; (focus (simp; done)); refine TO.runsG hP (by simp <;> rfl) ?_; dsimp only [goK]) | (refine TO.scall hP q3v (q7Z hP x.op) ?_ rfl rfl rfl rfl ?_; (focus (simp; done)); refine TO.runsG hP (by simp <;> rfl) ?_; dsimp only [goK]) | simp only [q0a] | (refine TW.cond hP rfl (fun hc => ?_) (fun hc => ?_) <;> simp at hc) | (refine TW.ret ⟨.inr rfl, _, _, rfl, rfl, ?_⟩; dsimp only [q0h])
  all_goals first | (refine ⟨(), rfl, ?_, hg0, hg1, ?_⟩ <;> first | (focus ((repeat' first | exact q0c | refine q0b (by simp) ?_); done)) | (focus (simp_all [mayInsB]; done))) | (focus (simp_all [q2a, mayInsB]; done))
 rintro _ g ⟨hg0, hg1, hB⟩
 dsimp only [q0M, q0k] at hg0 hg1
 refine TW.join (fun _ : Unit => [(2, .int .i64 regs), (3, .int .i64 many), (4, .ptr 0 0), (5, .ptr 1 0)]) (fun _ g => g.get 0 = some (.cells q0k p.cells) ∧ g.get 1 = some (.cells q0M x.cells) ∧ mayInsC p.types.list.length x = false) ?_ ?_
 ·repeat' first | refine TW.seq ?_ | refine TW.skip ?_ | refine TW.condT hP rfl ?_ | refine TW.condF hP rfl ?_ | (refine TW.regG hP (by simp [hg1] <;> rfl) ?_; dsimp only [goK]) | (refine q0E (fun hb => ?_) (fun hb => ?_) <;> (try simp only [Bool.not_eq_eq_eq_not, Bool.not_true, Bool.not_false] at hb) <;> (refine q2c (by simp [hb, hg0, hg1] <;> rfl) ?_; dsimp only [goK])) | (refine TO.scall hP q9l (answers6_pure hP x.op) ?_ rfl rfl rfl rfl ?_; (focus (simp; done)); refine TO.runsG hP (by simp <;> rfl) ?_; dsimp only [goK]) | simp only [q0a] | (refine TW.cond hP rfl (fun hc => ?_) (fun hc => ?_) <;> simp at hc) | (refine TW.ret ⟨.inr rfl, _, _, rfl, rfl, ?_⟩; dsimp only [q0h])
  all_goals first | (refine ⟨(), rfl, ?_, hg0, hg1, ?_⟩ <;> first | (focus ((repeat' first | exact q0c | refine q0b (by simp) ?_); done)) | (focus (simp_all [mayInsC]; done))) | (focus (simp_all [q2a, mayInsC]; done))
 rintro _ g ⟨hg0, hg1, hC⟩
 dsimp only [q0M, q0k] at hg0 hg1
 have e4 := q6C hP x.frm many (by omega)
 repeat' first | refine TW.seq ?_ | refine TW.skip ?_ | (refine TW.regG hP (by simp [hg1] <;> rfl) ?_; dsimp only [goK]) | (refine q0E (fun hb => ?_) (fun hb => ?_) <;> (try simp only [Bool.not_eq_eq_eq_not, Bool.not_true, Bool.not_false] at hb) <;> (refine q2c (by simp [hb, hg1] <;> rfl) ?_; dsimp only [goK])) | (refine TO.scall hP q2l (e4) ?_ rfl rfl rfl rfl ?_; (focus (simp; done)); refine TO.runsG hP (by simp <;> rfl) ?_; dsimp only [goK]) | simp only [q0a] | (refine TW.cond hP rfl (fun hc => ?_) (fun hc => ?_) <;> simp at hc) | (refine TW.ret ⟨.inr rfl, _, _, rfl, rfl, ?_⟩; dsimp only [q0h])
 all_goals first | (focus (simp_all [q2a, mayInsD]; done)) | (focus (simp_all [q2a, mayInsD]; omega))
def q3J (x : LEnd) (regs many : Int) : Bool :=
 if x.kind = 1 then decide (x.a = 0) && (decide (x.els = 0) && q2s [x.to] many)
 else if x.kind = 2 then q2s [x.a] regs && q2s [x.to, x.els] many
 else if x.kind = 3 then decide (x.to = 0) && (decide (x.els = 0) && q2s [x.a] regs)
 else false
theorem mayEnd6_pure (hP : POk Tryz.prog F gl K) (x : LEnd) (regs many : Int) : q0y Tryz.prog F q1Y [.agg x.cells, .int .i64 regs, .int .i64 many] (.bool (q3J x regs many)) := by
 refine CallsT.pure (O := fun u _ => u = .bool (q3J x regs many)) (k := 1) (by simp) ?_ (fun u g e => by subst e; rfl)
 refine CallsT.body hP q0e q9V rfl rfl ?_
 have e1 := q6C hP (.mk [x.to]) many (by simp [Sl.list])
 have e2 := q6C hP (.mk [x.a]) regs (by simp [Sl.list])
 have e3 := q6C hP (.mk [x.to, x.els]) many (by simp [Sl.list])
 dsimp only [Sl.av, Sl.list] at e1 e2 e3
 repeat' first | refine TW.seq ?_ | refine TW.block ?_ | refine TW.skip ?_ | (refine TW.regG hP (by simp <;> rfl) ?_; dsimp only [goK]) | (refine q0E (fun hb => ?_) (fun hb => ?_) <;> (try simp only [Bool.not_eq_eq_eq_not, Bool.not_true, Bool.not_false] at hb) <;> (refine q2c (by simp [hb] <;> rfl) ?_; dsimp only [goK])) | (refine TO.zcall hP q2l (e1) ?_ rfl rfl rfl (by simp <;> rfl) ?_ rfl ?_; (focus (simp; done)); (focus (repeat' first | exact FrzL.nil | apply FrzL.int | refine FrzL.ints (by simp <;> rfl) rfl ?_); done); refine TO.runsG hP (by simp <;> rfl) ?_; dsimp only [goK]) | (refine TO.zcall hP q2l (e2) ?_ rfl rfl rfl (by simp <;> rfl) ?_ rfl ?_; (focus (simp; done)); (focus (repeat' first | exact FrzL.nil | apply FrzL.int | refine FrzL.ints (by simp <;> rfl) rfl ?_); done); refine TO.runsG hP (by simp <;> rfl) ?_; dsimp only [goK]) | (refine TO.zcall hP q2l (e3) ?_ rfl rfl rfl (by simp <;> rfl) ?_ rfl ?_; (focus (simp; done)); (focus (repeat' first | exact FrzL.nil | apply FrzL.int | refine FrzL.ints (by simp <;> rfl) rfl ?_); done); refine TO.runsG hP (by simp <;> rfl) ?_; dsimp only [goK]) | simp only [q0a] | (refine TW.cond hP rfl (fun hc => ?_) (fun hc => ?_) <;> simp at hc) | (refine TW.ret ⟨.inr rfl, _, _, rfl, rfl, ?_⟩; dsimp only [q0h])
 all_goals clear e1 e2 e3
 all_goals first | (focus (simp_all [q3J]; done))
def q0q : List LBlock → Int
 | [] => 0
 | b :: l => b.ins.list.length + q0q l
theorem many6_app (l k : List LBlock) : q0q (l ++ k) = q0q l + q0q k := by
 induction l with
 | nil => simp [q0q]
 | cons a l ih => simp [q0q, ih]; omega
theorem q2X {l : List LBlock} {i : Nat} {x : LBlock} (hx : l[i]? = some x) : q0q (l.take (i + 1)) = q0q (l.take i) + x.ins.list.length := by
 obtain ⟨h, rfl⟩ := List.getElem?_eq_some_iff.1 hx
 rw [List.take_succ_eq_append_getElem h, many6_app]
 simp [q0q]
theorem q0J : ∀ l : List LBlock, 0 ≤ q0q l
 | [] => by simp [q0q]
 | a :: l => by have := q0J l; simp only [q0q]; omega
theorem q3h (l : List LBlock) (i : Nat) : q0q (l.take i) ≤ q0q l := by
 have h := many6_app (l.take i) (l.drop i)
 rw [List.take_append_drop] at h
 have := q0J (l.drop i)
 omega
theorem many6_pure (hP : POk Tryz.prog F gl K) (l : Sl LBlock) (hlen : l.list.length < 1000000) (hm : q0q l.list < 1000000000) : q0y Tryz.prog F q0G [l.av LBlock.cells] (.int .i64 (q0q l.list)) := by
 refine CallsT.pure (O := fun u _ => u = .int .i64 (q0q l.list)) (k := 1) (by simp) ?_ (fun u g e => by subst e; rfl)
 refine CallsT.body hP q0e E_fescueref06_Many rfl rfl ?_
 repeat' first | refine TW.seq ?_ | refine TW.block ?_ | (refine TW.regG hP (by simp <;> rfl) ?_; dsimp only [goK])
 refine TW.loopL (fun i : Nat => [(0, l.av LBlock.cells), (3, .int .i64 (q0q (l.list.take i))), (4, .int .i64 i)]) (fun i _ => i ≤ l.list.length) (fun i => l.list.length - i) (0) ?_ ?_ ?_
 focus (repeat' first | exact q0c | refine q0b (by simp [q0q]) ?_)
 ·exact Nat.zero_le _
 rintro i g hi
 repeat' first | refine TW.seq ?_ | (refine TW.regG hP (by simp <;> rfl) ?_; dsimp only [goK]) | simp only [q0a]
 refine TW.cond hP rfl (fun hc => TW.skip ?_) (fun hc => TW.exit ?_)
 ·simp at hc
  obtain ⟨x, hx⟩ := q0g hc
  have hav := q0z (e := LBlock.cells) (show 0 < l.list.length by omega)
  have hs := q2X hx
  have h1 := q3h l.list (i + 1)
  have h2 := q0J (l.list.take i)
  dsimp only [q0a]
  repeat' first | refine TW.seq ?_ | refine TW.block ?_ | (refine TW.regG hP (by simp [hx, hav] <;> rfl) ?_; dsimp only [goK]) | simp only [q0d]
  refine ⟨i + 1, by omega, trivial, ?_, by omega⟩
  repeat' first | exact q0c | refine q0b (by simp [hav, w64s (show i < 9000000000000000000 by omega), hs, w64e (n := q0q (l.list.take i) + x.ins.list.length) (by omega) (by omega)]) ?_
 ·simp at hc
  dsimp only [q0a]
  repeat' first | refine TW.seq ?_ | (refine TW.regG hP (by simp <;> rfl) ?_; dsimp only [goK]) | simp only [q0a] | (refine TW.ret ⟨.inr rfl, _, _, rfl, rfl, ?_⟩; dsimp only [q0h])
  rw [List.take_of_length_le hc]
def q0i (p : LProg) (f : LFunc) : Int := match p.types.list[f.sig.toNat]? with | some x => x.parts.list.length | none => 0
theorem q6W (hP : POk Tryz.prog F gl K) (p : LProg) (f : LFunc) (h0 : 0 ≤ f.sig) (h1 : f.sig < p.types.list.length) : q0y Tryz.prog F q0t [.agg p.cells, .agg f.cells] (.int .i64 (q0i p f)) := by
 refine CallsT.pure (O := fun u _ => u = .int .i64 (q0i p f)) (k := 1) (by simp) ?_ (fun u g e => by subst e; rfl)
 refine CallsT.body hP q0e q9W rfl rfl ?_
 obtain ⟨n, hn⟩ := Int.eq_ofNat_of_zero_le h0
 obtain ⟨x, hx⟩ := q0g (show n < p.types.list.length by omega)
 have hav := q0z (e := LType.cells) (show 0 < p.types.list.length by omega)
 repeat' first | refine TW.seq ?_ | (refine TW.regG hP (by simp [hn, hx, hav] <;> rfl) ?_; dsimp only [goK]) | simp only [q0a] | (refine TW.ret ⟨.inr rfl, _, _, rfl, rfl, ?_⟩; dsimp only [q0h])
 simp [q0i, hn, hx]
structure SmallF (f : LFunc) : Prop where
 nb : f.blocks.list.length < 900000
 many : q0q f.blocks.list < 900000
 args : ∀ b ∈ f.blocks.list, ∀ x ∈ b.ins.list, x.args.list.length < 900000
 frm : ∀ b ∈ f.blocks.list, ∀ x ∈ b.ins.list, x.frm.list.length < 900000
def q7J (p : LProg) (f : LFunc) : Int := match p.types.list[f.sig.toNat]? with | some x => x.kind | none => 0
def q2G (p : LProg) (f : LFunc) : Bool :=
 decide (f.sig < 0) || (decide ((p.types.list.length : Int) ≤ f.sig) || (!decide (q7J p f = 3) || (decide ((f.blocks.list.length : Int) < 1) || (decide ((16 : Int) < f.blocks.list.length) || decide (128 < q0q f.blocks.list)))))
def q0w (p : LProg) (f : LFunc) : Int := q0i p f + q0q f.blocks.list
def q2h (p : LProg) (f : LFunc) (b : LBlock) : Bool := b.ins.list.all (fun x => q2a p.types.list.length p.funcs.list.length x (q0w p f) f.blocks.list.length) && q3J b.ed (q0w p f) f.blocks.list.length
def q0I (p : LProg) (f : LFunc) : Bool := !q2G p f && f.blocks.list.all (q2h p f)
theorem mayFunc6_pure (hP : POk Tryz.prog F gl K) (hX : ∀ f a, K.ext f a = none) (p : LProg) (f : LFunc) (hs : SmallF f) (hp : ∀ x ∈ p.types.list, x.parts.list.length < 900000) : q0y Tryz.prog F q1I [.agg p.cells, .agg f.cells] (.bool (q0I p f)) := by
  refine CallsT.pure (O := fun u _ => u = .bool (q0I p f)) (k := 1) (by simp) ?_ (fun u g e => by subst e; rfl)
  refine CallsT.body hP q0e q9r rfl rfl ?_
  have e1 := many6_pure hP f.blocks (by have := hs.nb; omega) (by have := hs.many; omega)
  refine TW.seq (TW.regG hP (by simp <;> rfl) ?_)
  dsimp only [goK, q0a, q0f, q0d]
  refine TW.gen (fun g => g.get 0 = some (.cells q0k p.cells) ∧ g.get 1 = some (.cells q0R f.cells)) ⟨by simp, by simp⟩ fun g hgg => ?_
  obtain ⟨hg0, hg1⟩ := hgg
  dsimp only [q0R, q0k] at hg0 hg1
  refine TW.join (fun _ : Unit => [(2, .ptr 0 0), (3, .ptr 1 0)]) (fun _ g => g.get 0 = some (.cells q0k p.cells) ∧ g.get 1 = some (.cells q0R f.cells) ∧ q2G p f = false) ?_ ?_
  · by_cases h0 : 0 ≤ f.sig
    · obtain ⟨n, hn⟩ := Int.eq_ofNat_of_zero_le h0
      by_cases h1 : n < p.types.list.length
      · obtain ⟨x, hx⟩ := q0g h1
        have hav := q0z (e := LType.cells) (show 0 < p.types.list.length by omega)
        have hk : q7J p f = x.kind := by simp [q7J, hn, hx]
        have hnl : ¬ (p.types.list.length : Int) ≤ f.sig := by omega
        have h01 : ¬ f.sig < 0 := by omega
        repeat' first | refine TW.seq ?_ | refine TW.skip ?_ | refine TW.condT hP rfl ?_ | (refine TW.regG hP (by simp [hg1, hn, hav] <;> rfl) ?_; dsimp only [goK]) | (refine q0E (fun hb => ?_) (fun hb => ?_) <;> (try simp only [Bool.not_eq_eq_eq_not, Bool.not_true, Bool.not_false] at hb) <;> (refine q2c (by simp [hb, hg0, hg1, hn, hx, hav] <;> rfl) ?_; dsimp only [goK])) | (refine TO.scall hP I_fescueref06_Many (e1) ?_ rfl rfl rfl rfl ?_; (focus (simp; done)); refine TO.runsG hP (by simp <;> rfl) ?_; dsimp only [goK]) | simp only [q0a] | (refine TW.cond hP rfl (fun hc => ?_) (fun hc => ?_) <;> simp at hc) | (refine TW.ret ⟨.inr rfl, _, _, rfl, rfl, ?_⟩; dsimp only [q0h])
        all_goals clear e1
        all_goals first | (refine ⟨(), rfl, ?_, hg0, hg1, ?_⟩ <;> first | (focus ((repeat' first | exact q0c | refine q0b (by simp) ?_); done)) | (focus (simp_all [q2G]; done))) | (focus (simp_all [q0I, q2G]; done))
      · have hnl : (p.types.list.length : Int) ≤ f.sig := by omega
        have h01 : ¬ f.sig < 0 := by omega
        repeat' first | refine TW.seq ?_ | refine TW.condT hP rfl ?_ | (refine TW.regG hP (by simp [hg1, hn] <;> rfl) ?_; dsimp only [goK]) | (refine q0E (fun hb => ?_) (fun hb => ?_) <;> (try simp only [Bool.not_eq_eq_eq_not, Bool.not_true, Bool.not_false] at hb) <;> (refine q2c (by simp [hb, hg0, hg1, hn, decide_eq_true (show p.types.list.length ≤ n by omega)] <;> rfl) ?_; dsimp only [goK])) | simp only [q0a] | (refine TW.ret ⟨.inr rfl, _, _, rfl, rfl, ?_⟩; dsimp only [q0h])
        all_goals first | (focus (simp [q0I, q2G, hnl]; done))
    · have h01 : f.sig < 0 := by omega
      repeat' first | refine TW.seq ?_ | refine TW.condT hP rfl ?_ | (refine TW.regG hP (by simp [hg1, decide_eq_true h01] <;> rfl) ?_; dsimp only [goK]) | simp only [q0a] | (refine TW.ret ⟨.inr rfl, _, _, rfl, rfl, ?_⟩; dsimp only [q0h])
      simp [q0I, q2G, h01]
  rintro _ g ⟨hg0, hg1, hA⟩
  dsimp only [q0R, q0k] at hg0 hg1
  have hA' := hA
  simp only [q2G, Bool.or_eq_false_iff, decide_eq_false_iff_not, Bool.not_eq_false', decide_eq_true_eq] at hA'
  obtain ⟨a1, a2, a3, a4, a5, a6⟩ := hA'
  have e2 := q6W hP p f (by omega) (by omega)
  have hpos := q0J f.blocks.list
  have hsp : 0 ≤ q0i p f ∧ q0i p f < 900000 := by
    unfold q0i
    cases hx : p.types.list[f.sig.toNat]? with
    | none => simp
    | some x => have := hp x (List.mem_of_getElem? hx); simp; omega
  have hsm := hs.many
  have hav := q0z (e := LBlock.cells) (show 0 < f.blocks.list.length by omega)
  try refine TW.seq ?_
  refine TW.drawG hP [(q0t, [.agg p.cells, .agg f.cells], .int .i64 (q0i p f)), (q0G, [f.blocks.av LBlock.cells], .int .i64 (q0q f.blocks.list))] (fun e he => by rcases List.mem_cons.1 he with rfl | he; exact e2; rcases List.mem_cons.1 he with rfl | he; exact e1; cases he) (by kernel_rfl) (by simp [hX, hg0, hg1, w64e (n := q0i p f + q0q f.blocks.list) (by omega) (by omega), q0t, q1j, q1k, q0G, q1O, q1P] <;> rfl) ?_
  repeat' (refine q2V (fun hb => ?_) (fun hb => ?_) <;> (try simp only [Bool.not_eq_eq_eq_not, Bool.not_true, Bool.not_false] at hb) <;> refine q8q (by simp [hb, hX, hg0, hg1, w64e (n := q0i p f + q0q f.blocks.list) (by omega) (by omega), q0t, q1j, q1k, q0G, q1O, q1P] <;> rfl) ?_)
  all_goals dsimp only [okQ, q0a]
  repeat' first | refine TW.seq ?_ | refine TW.block ?_ | (refine TW.regG hP (by simp <;> rfl) ?_; dsimp only [goK])
  refine TW.loopL (fun i : Nat => [(2, .ptr 0 0), (3, .ptr 1 0), (5, .int .i64 (q0w p f)), (6, .int .i64 i)]) (fun i g => i ≤ f.blocks.list.length ∧ g.get 0 = some (.cells q0k p.cells) ∧ g.get 1 = some (.cells q0R f.cells) ∧ (f.blocks.list.take i).all (q2h p f) = true) (fun i => f.blocks.list.length - i) (0) ?_ ?_ ?_
  focus (repeat' first | exact q0c | refine q0b (by simp [q0w]) ?_)
  · exact ⟨Nat.zero_le _, by simpa using hg0, by simpa using hg1, rfl⟩
  rintro i g ⟨hi, hg0, hg1, hall⟩
  dsimp only [q0R, q0k] at hg0 hg1
  repeat' first | refine TW.seq ?_ | (refine TW.regG hP (by simp [hg1] <;> rfl) ?_; dsimp only [goK]) | simp only [q0a]
  refine TW.cond hP rfl (fun hc => TW.skip ?_) (fun hc => TW.exit ?_)
  · simp at hc
    obtain ⟨b, hb⟩ := q0g hc
    have hi2 := hc
    have hbm := List.mem_of_getElem? hb
    have hst := q3B (p := q2h p f) hb
    have bad : q2h p f b = false → AV.bool false = .bool (q0I p f) := fun h => by rw [q0I, q2N hb h, Bool.and_false]
    have hins : b.ins.list.length < 900000 := by
      have h1 := q2X hb
      have h2 := q3h f.blocks.list (i + 1)
      have h3 := q0J (f.blocks.list.take i)
      omega
    dsimp only [q0a]
    repeat' first | refine TW.seq ?_ | refine TW.block ?_ | (refine TW.regG hP (by simp <;> rfl) ?_; dsimp only [goK])
    refine TW.loopL (fun k : Nat => [(2, .ptr 0 0), (3, .ptr 1 0), (5, .int .i64 (q0w p f)), (6, .int .i64 i), (7, .int .i64 k)]) (fun k g => k ≤ b.ins.list.length ∧ g.get 0 = some (.cells q0k p.cells) ∧ g.get 1 = some (.cells q0R f.cells) ∧ (b.ins.list.take k).all (fun x => q2a p.types.list.length p.funcs.list.length x (q0w p f) f.blocks.list.length) = true) (fun k => b.ins.list.length - k) (0) ?_ ?_ ?_
    focus (repeat' first | exact q0c | refine q0b (by simp) ?_)
    · exact ⟨Nat.zero_le _, by simpa using hg0, by simpa using hg1, rfl⟩
    rintro k g ⟨hk, hg0, hg1, hall2⟩
    dsimp only [q0R, q0k] at hg0 hg1
    repeat' first | refine TW.seq ?_ | (refine TW.regG hP (by simp [hg1, hav, hb] <;> rfl) ?_; dsimp only [goK]) | simp only [q0a]
    refine TW.cond hP rfl (fun hc => TW.skip ?_) (fun hc => TW.exit ?_)
    · simp at hc
      obtain ⟨x, hx⟩ := q0g hc
      have hxm := List.mem_of_getElem? hx
      have hav2 := q0z (e := LIns.cells) (show 0 < b.ins.list.length by omega)
      have hst2 := q3B (p := fun x => q2a p.types.list.length p.funcs.list.length x (q0w p f) f.blocks.list.length) hx
      have e3 := mayIns6_pure hP p x (q0w p f) f.blocks.list.length (hs.args b hbm x hxm) (hs.frm b hbm x hxm)
      dsimp only [q0a]
      repeat' first | refine TW.seq ?_ | refine TW.block ?_
      try refine TW.seq ?_
      refine TW.drawG hP [(q1X, [.agg p.cells, .agg x.cells, .int .i64 (q0w p f), .int .i64 f.blocks.list.length], .bool (q2a p.types.list.length p.funcs.list.length x (q0w p f) f.blocks.list.length))] (fun e he => by rcases List.mem_cons.1 he with rfl | he; exact e3; cases he) (by kernel_rfl) (by simp [hX, hg0, hg1, hav, hb, hav2, hx, q1X, q5Y, q6b] <;> rfl) ?_
      repeat' (refine q2V (fun hb => ?_) (fun hb => ?_) <;> (try simp only [Bool.not_eq_eq_eq_not, Bool.not_true, Bool.not_false] at hb) <;> refine q8q (by simp [hb, hX, hg0, hg1, hav, hb, hav2, hx, q1X, q5Y, q6b] <;> rfl) ?_)
      all_goals dsimp only [okQ, q0a]
      cases hm : q2a p.types.list.length p.funcs.list.length x (q0w p f) f.blocks.list.length with
      | false =>
        repeat' first | refine TW.seq ?_ | refine TW.condT hP rfl ?_ | (refine TW.regG hP (by simp <;> rfl) ?_; dsimp only [goK]) | simp only [q0a] | (refine TW.ret ⟨.inr rfl, _, _, rfl, rfl, ?_⟩; dsimp only [q0h])
        exact bad (by rw [q2h, q2N hx hm]; rfl)
      | true =>
        repeat' first | refine TW.skip ?_ | refine TW.condF hP rfl ?_ | (refine TW.regG hP (by simp <;> rfl) ?_; dsimp only [goK]) | simp only [q0d]
        refine ⟨k + 1, by omega, trivial, ?_, by omega, by simpa using hg0, by simpa using hg1, by rw [hst2, hall2, hm]; rfl⟩
        repeat' first | exact q0c | refine q0b (by simp [w64s (show k < 9000000000000000000 by omega)]) ?_
    · simp at hc
      rw [List.take_of_length_le hc] at hall2
      have e4 := mayEnd6_pure hP b.ed (q0w p f) f.blocks.list.length
      dsimp only [q0a]
      repeat' first | refine TW.seq ?_
      try refine TW.seq ?_
      refine TW.drawG hP [(q1Y, [.agg b.ed.cells, .int .i64 (q0w p f), .int .i64 f.blocks.list.length], .bool (q3J b.ed (q0w p f) f.blocks.list.length))] (fun e he => by rcases List.mem_cons.1 he with rfl | he; exact e4; cases he) (by kernel_rfl) (by simp [hX, hg1, hav, hb, q1Y, q5Z, q6c] <;> rfl) ?_
      repeat' (refine q2V (fun hb => ?_) (fun hb => ?_) <;> (try simp only [Bool.not_eq_eq_eq_not, Bool.not_true, Bool.not_false] at hb) <;> refine q8q (by simp [hb, hX, hg0, hg1, hav, hb, q1Y, q5Z, q6c] <;> rfl) ?_)
      all_goals dsimp only [okQ, q0a]
      cases hm : q3J b.ed (q0w p f) f.blocks.list.length with
      | false =>
        repeat' first | refine TW.seq ?_ | refine TW.condT hP rfl ?_ | (refine TW.regG hP (by simp <;> rfl) ?_; dsimp only [goK]) | simp only [q0a] | (refine TW.ret ⟨.inr rfl, _, _, rfl, rfl, ?_⟩; dsimp only [q0h])
        exact bad (by rw [q2h, hall2, hm]; rfl)
      | true =>
        repeat' first | refine TW.skip ?_ | refine TW.condF hP rfl ?_ | (refine TW.regG hP (by simp <;> rfl) ?_; dsimp only [goK]) | simp only [q0d]
        refine ⟨i + 1, by omega, trivial, ?_, by omega, by simpa using hg0, by simpa using hg1, by rw [hst, hall, q2h, hall2, hm]; rfl⟩
        repeat' first | exact q0c | refine q0b (by simp [w64s (show i < 9000000000000000000 by omega)]) ?_
  · simp at hc
    rw [List.take_of_length_le hc] at hall
    dsimp only [q0a]
    repeat' first | refine TW.seq ?_ | (refine TW.regG hP (by simp <;> rfl) ?_; dsimp only [goK]) | simp only [q0a] | (refine TW.ret ⟨.inr rfl, _, _, rfl, rfl, ?_⟩; dsimp only [q0h])
    rw [q0I, hA, hall]; rfl
structure SmallP (p : LProg) : Prop where
 nt : p.types.list.length < 900000
 parts : ∀ x ∈ p.types.list, x.parts.list.length < 900000
 nf : p.funcs.list.length < 900000
 funcs : ∀ f ∈ p.funcs.list, SmallF f
def q3U (p : LProg) : Int := if q5U p.types.list = 0 then (if p.funcs.list.all (q0I p) = true then (if (p.funcs.list.length : Int) < 1 ∨ (8 : Int) < p.funcs.list.length then 60 else 0) else 60) else q5U p.types.list
theorem check6_pure (hP : POk Tryz.prog F gl K) (hX : ∀ f a, K.ext f a = none) (p : LProg) (hs : SmallP p) : q0y Tryz.prog F q4m [.agg p.cells] (.int .i64 (q3U p)) := by
  refine CallsT.pure (O := fun u _ => u = .int .i64 (q3U p)) (k := 1) (by simp) ?_ (fun u g e => by subst e; rfl)
  refine CallsT.body hP q0e z0S rfl rfl ?_
  have e1 := Check3_pure hP p.types (fun x hx => by have := hs.parts x hx; omega) (by have := hs.nt; omega)
  have hnf := hs.nf
  by_cases hc3 : q5U p.types.list = 0
  · repeat' first | refine TW.seq ?_ | refine TW.block ?_ | refine TW.skip ?_ | refine TW.condF hP rfl ?_ | (refine TW.regG hP (by simp <;> rfl) ?_; dsimp only [goK]) | (refine TO.scall hP q6J (e1) ?_ rfl rfl rfl rfl ?_; (focus (simp; done)); refine TO.runsG hP (by simp [hc3] <;> rfl) ?_; dsimp only [goK])
    refine TW.loopL (fun i : Nat => [(1, .ptr 0 0), (4, .int .i64 i)]) (fun i g => i ≤ p.funcs.list.length ∧ g.get 0 = some (.cells q0k p.cells) ∧ (p.funcs.list.take i).all (q0I p) = true) (fun i => p.funcs.list.length - i) (0) ?_ ?_ ?_
    focus (repeat' first | exact q0c | refine q0b (by simp) ?_)
    · exact ⟨Nat.zero_le _, by simp, rfl⟩
    rintro i g ⟨hi, hg0, hall⟩
    dsimp only [q0k] at hg0
    repeat' first | refine TW.seq ?_ | (refine TW.regG hP (by simp [hg0] <;> rfl) ?_; dsimp only [goK]) | simp only [q0a]
    refine TW.cond hP rfl (fun hc => TW.skip ?_) (fun hc => TW.exit ?_)
    · simp at hc
      obtain ⟨f, hf⟩ := q0g hc
      have hav := q0z (e := LFunc.cells) (show 0 < p.funcs.list.length by omega)
      have hst := q3B (p := q0I p) hf
      have e2 := mayFunc6_pure hP hX p f (hs.funcs f (List.mem_of_getElem? hf)) hs.parts
      dsimp only [q0a]
      repeat' first | refine TW.seq ?_ | refine TW.block ?_
      try refine TW.seq ?_
      refine TW.drawG hP [(q1I, [.agg p.cells, .agg f.cells], .bool (q0I p f))] (fun e he => by rcases List.mem_cons.1 he with rfl | he; exact e2; cases he) (by kernel_rfl) (by simp [hX, hg0, hav, hf, q1I, q5G, q5H] <;> rfl) ?_
      repeat' (refine q2V (fun hb => ?_) (fun hb => ?_) <;> (try simp only [Bool.not_eq_eq_eq_not, Bool.not_true, Bool.not_false] at hb) <;> refine q8q (by simp [hb, hX, hg0, hav, hf, q1I, q5G, q5H] <;> rfl) ?_)
      all_goals dsimp only [okQ, q0a]
      cases hm : q0I p f with
      | false =>
        repeat' first | refine TW.seq ?_ | refine TW.condT hP rfl ?_ | (refine TW.regG hP (by simp <;> rfl) ?_; dsimp only [goK]) | simp only [q0a] | (refine TW.ret ⟨.inr rfl, _, _, rfl, rfl, ?_⟩; dsimp only [q0h])
        rw [q3U, if_pos hc3, if_neg (by rw [q2N hf hm]; decide)]
      | true =>
        repeat' first | refine TW.skip ?_ | refine TW.condF hP rfl ?_ | (refine TW.regG hP (by simp <;> rfl) ?_; dsimp only [goK]) | simp only [q0d]
        refine ⟨i + 1, by omega, trivial, ?_, by omega, by simpa using hg0, by rw [hst, hall, hm]; rfl⟩
        repeat' first | exact q0c | refine q0b (by simp [w64s (show i < 9000000000000000000 by omega)]) ?_
    · simp at hc
      rw [List.take_of_length_le hc] at hall
      dsimp only [q0a]
      repeat' first | refine TW.seq ?_ | refine TW.skip ?_ | refine TW.condT hP rfl ?_ | (refine TW.regG hP (by simp [hg0] <;> rfl) ?_; dsimp only [goK]) | (refine q0E (fun hb => ?_) (fun hb => ?_) <;> (try simp only [Bool.not_eq_eq_eq_not, Bool.not_true, Bool.not_false] at hb) <;> (refine q2c (by simp [hb, hg0] <;> rfl) ?_; dsimp only [goK])) | simp only [q0a] | (refine TW.cond hP rfl (fun hc => ?_) (fun hc => ?_) <;> simp at hc) | (refine TW.ret ⟨.inr rfl, _, _, rfl, rfl, ?_⟩; dsimp only [q0h])
      all_goals (simp at hb; rw [q3U, if_pos hc3, if_pos hall])
      all_goals first | (rw [if_pos (by omega)]; done) | (rw [if_neg (by omega)]; done)
  · repeat' first | refine TW.seq ?_ | refine TW.condT hP rfl ?_ | (refine TW.regG hP (by simp [hc3] <;> rfl) ?_; dsimp only [goK]) | (refine TO.scall hP q6J (e1) ?_ rfl rfl rfl rfl ?_; (focus (simp; done)); refine TO.runsG hP (by simp <;> rfl) ?_; dsimp only [goK]) | simp only [q0a] | (refine TW.ret ⟨.inr rfl, _, _, rfl, rfl, ?_⟩; dsimp only [q0h])
    rw [q3U, if_neg hc3]
def q0K (p : LProg) (f : Int) : Int := if q3U p = 0 ∧ (f < 0 ∨ (p.funcs.list.length : Int) ≤ f) then 2 else q3U p
theorem asked6_pure (hP : POk Tryz.prog F gl K) (hX : ∀ f a, K.ext f a = none) (p : LProg) (hs : SmallP p) (f : Int) : q0y Tryz.prog F q4k [.agg p.cells, .int .i64 f] (.int .i64 (q0K p f)) := by
 refine CallsT.pure (O := fun u _ => u = .int .i64 (q0K p f)) (k := 1) (by simp) ?_ (fun u g e => by subst e; rfl)
 refine CallsT.body hP q0e z0P rfl rfl ?_
 have e1 := check6_pure hP hX p hs
 repeat' first | refine TW.seq ?_ | refine TW.skip ?_ | refine TW.condT hP rfl ?_ | refine TW.condF hP rfl ?_ | (refine TW.regG hP (by simp <;> rfl) ?_; dsimp only [goK]) | (refine q0E (fun hb => ?_) (fun hb => ?_) <;> (try simp only [Bool.not_eq_eq_eq_not, Bool.not_true, Bool.not_false] at hb) <;> (refine q2c (by simp [hb] <;> rfl) ?_; dsimp only [goK])) | (refine TO.scall hP z0I (e1) ?_ rfl rfl rfl rfl ?_; (focus (simp; done)); refine TO.runsG hP (by simp <;> rfl) ?_; dsimp only [goK]) | simp only [q0a] | (refine TW.cond hP rfl (fun hc => ?_) (fun hc => ?_) <;> simp at hc) | (refine TW.ret ⟨.inr rfl, _, _, rfl, rfl, ?_⟩; dsimp only [q0h])
 all_goals clear e1
 all_goals first | (focus (simp_all [q0K]; done))
theorem q2M {p : LProg} {f : LFunc} (h : q0I p f = true) : 0 ≤ f.sig ∧ f.sig < p.types.list.length ∧ q7J p f = 3 ∧ 1 ≤ f.blocks.list.length ∧ f.blocks.list.length ≤ 16 ∧ q0q f.blocks.list ≤ 128 := by
 simp only [q0I, Bool.and_eq_true, Bool.not_eq_true', q2G, Bool.or_eq_false_iff, decide_eq_false_iff_not, Bool.not_eq_false', decide_eq_true_eq] at h
 obtain ⟨⟨a1, a2, a3, a4, a5, a6⟩, _⟩ := h
 exact ⟨by omega, by omega, a3, by omega, by omega, by omega⟩
theorem q2d {p : LProg} (h : q3U p = 0) : q5U p.types.list = 0 ∧ (∀ f ∈ p.funcs.list, q0I p f = true) ∧ 1 ≤ p.funcs.list.length ∧ p.funcs.list.length ≤ 8 := by
 unfold q3U at h
 split at h
 ·rename_i h1
  split at h
  ·rename_i h2
   split at h
   ·cases h
   ·exact ⟨h1, List.all_eq_true.1 h2, by omega, by omega⟩
  ·cases h
 ·rename_i h1; exact absurd h h1
theorem q4P {p : LProg} {f : Int} (h : q0K p f = 0) : q3U p = 0 ∧ 0 ≤ f ∧ f < p.funcs.list.length := by
 unfold q0K at h
 split at h
 ·cases h
 ·rename_i h1; exact ⟨h, by omega, by omega⟩
theorem q6B (hP : POk Tryz.prog F gl K) (hX : ∀ f a, K.ext f a = none) (p : LProg) (hs : SmallP p) (k : Nat) (f : LFunc) (hf : p.funcs.list[k]? = some f) (h0 : 0 ≤ f.sig) (h1 : f.sig < p.types.list.length) : q0y Tryz.prog F q2j [.agg p.cells, .int .i64 k] (.int .i64 (q0w p f)) := by
 refine CallsT.pure (O := fun u _ => u = .int .i64 (q0w p f)) (k := 1) (by simp) ?_ (fun u g e => by subst e; rfl)
 refine CallsT.body hP q0e z0R rfl rfl ?_
 have hsf := hs.funcs f (List.mem_of_getElem? hf)
 have hav := q0z (e := LFunc.cells) (show 0 < p.funcs.list.length by have := (List.getElem?_eq_some_iff.1 hf).1; omega)
 have e1 := many6_pure hP f.blocks (by have := hsf.nb; omega) (by have := hsf.many; omega)
 have e2 := q6W hP p f h0 h1
 have hpos := q0J f.blocks.list
 have hsm := hsf.many
 have hsp : 0 ≤ q0i p f ∧ q0i p f < 900000 := by
  unfold q0i
  cases hx : p.types.list[f.sig.toNat]? with
  | none => simp
  | some x => have := hs.parts x (List.mem_of_getElem? hx); simp; omega
 refine TW.seq (TW.regG hP (by simp <;> rfl) ?_)
 dsimp only [goK, q0a, q0f, q0d]
 try refine TW.seq ?_
 refine TW.drawG hP [(q0t, [.agg p.cells, .agg f.cells], .int .i64 (q0i p f)), (q0G, [f.blocks.av LBlock.cells], .int .i64 (q0q f.blocks.list))] (fun e he => by rcases List.mem_cons.1 he with rfl | he; exact e2; rcases List.mem_cons.1 he with rfl | he; exact e1; cases he) (by kernel_rfl) (by simp [hX, hf, hav, w64e (n := q0i p f + q0q f.blocks.list) (by omega) (by omega), q0t, q1j, q1k, q0G, q1O, q1P] <;> rfl) ?_
 repeat' (refine q2V (fun hb => ?_) (fun hb => ?_) <;> (try simp only [Bool.not_eq_eq_eq_not, Bool.not_true, Bool.not_false] at hb) <;> refine q8q (by simp [hb, hX, hf, hav, w64e (n := q0i p f + q0q f.blocks.list) (by omega) (by omega), q0t, q1j, q1k, q0G, q1O, q1P] <;> rfl) ?_)
 all_goals dsimp only [okQ, q0a]
 repeat' first | (refine TW.ret ⟨.inr rfl, _, _, rfl, rfl, ?_⟩; dsimp only [q0h])
 rfl
def regsR6 (p : LProg) (f : Int) : Int := if q0K p f = 0 then (match p.funcs.list[f.toNat]? with | some x => q0w p x | none => 0) else 0
theorem regsR6_pure (hP : POk Tryz.prog F gl K) (hX : ∀ f a, K.ext f a = none) (p : LProg) (hs : SmallP p) (f : Int) : q0y Tryz.prog F q4Z [.agg p.cells, .int .i64 f] (.tup [.int .i64 (regsR6 p f), .int .i64 (q0K p f)]) := by
 refine CallsT.pure (O := fun u _ => u = .tup [.int .i64 (regsR6 p f), .int .i64 (q0K p f)]) (k := 2) (by simp) ?_ (fun u g e => by subst e; rfl)
 refine CallsT.body hP q0e E_fescueref06_Regs rfl rfl ?_
 have e1 := asked6_pure hP hX p hs f
 by_cases ha : q0K p f = 0
 ·obtain ⟨h1, h2, h3⟩ := q4P ha
  obtain ⟨n, rfl⟩ := Int.eq_ofNat_of_zero_le h2
  obtain ⟨x, hx⟩ := q0g (show n < p.funcs.list.length by omega)
  have hsig := q2M ((q2d h1).2.1 x (List.mem_of_getElem? hx))
  have e2 := q6B hP hX p hs n x hx hsig.1 hsig.2.1
  repeat' first | refine TW.seq ?_ | refine TW.skip ?_ | refine TW.condF hP rfl ?_ | (refine TW.regG hP (by simp <;> rfl) ?_; dsimp only [goK]) | (refine TO.scall hP q6H (e1) ?_ rfl rfl rfl rfl ?_; (focus (simp; done)); refine TO.runsG hP (by simp [ha] <;> rfl) ?_; dsimp only [goK]) | (refine TO.scall hP q2m (e2) ?_ rfl rfl rfl rfl ?_; (focus (simp; done)); refine TO.runsG hP (by simp <;> rfl) ?_; dsimp only [goK]) | simp only [q0a] | (refine TW.ret ⟨.inr rfl, _, _, rfl, rfl, ?_⟩; dsimp only [q0h])
  simp [regsR6, ha, hx]
 ·repeat' first | refine TW.seq ?_ | refine TW.condT hP rfl ?_ | (refine TW.regG hP (by simp [ha] <;> rfl) ?_; dsimp only [goK]) | (refine TO.scall hP q6H (e1) ?_ rfl rfl rfl rfl ?_; (focus (simp; done)); refine TO.runsG hP (by simp <;> rfl) ?_; dsimp only [goK]) | simp only [q0a] | (refine TW.ret ⟨.inr rfl, _, _, rfl, rfl, ?_⟩; dsimp only [q0h])
  simp [regsR6, ha]
theorem asked27_pure (hP : POk Tryz.prog F gl K) (hX : ∀ f a, K.ext f a = none) (p : LProg) (hs : SmallP p) (f : Int) : q0y Tryz.prog F q4i [.agg p.cells, .int .i64 f] (.int .i64 (q0K p f)) := by
 refine CallsT.pure (O := fun u _ => u = .int .i64 (q0K p f)) (k := 1) (by simp) ?_ (fun u g e => by subst e; rfl)
 refine CallsT.body hP q0e z0N rfl rfl ?_
 have e1 := regsR6_pure hP hX p hs f
 repeat' first | refine TW.seq ?_ | (refine TW.regG hP (by simp <;> rfl) ?_; dsimp only [goK]) | (refine TO.scall hP I_fescueref06_Regs (e1) ?_ rfl rfl rfl rfl ?_; (focus (simp; done)); refine TO.runsG hP (by simp <;> rfl) ?_; dsimp only [goK]) | simp only [q0a] | (refine TW.ret ⟨.inr rfl, _, _, rfl, rfl, ?_⟩; dsimp only [q0h])
def in27 (l : List Int) (n : Int) : Bool := l.any fun x => decide (x = n)
theorem q8V (hP : POk Tryz.prog F gl K) (l : Sl Int) (n : Int) (hlen : l.list.length < 1000000) : q0y Tryz.prog F q5S [l.av cI, .int .i64 n] (.bool (in27 l.list n)) := by
 refine CallsT.pure (O := fun u _ => u = .bool (in27 l.list n)) (k := 1) (by simp) ?_ (fun u g e => by subst e; rfl)
 refine CallsT.body hP q0e E_fescueref27_in rfl rfl ?_
 repeat' first | refine TW.seq ?_ | refine TW.block ?_ | (refine TW.regG hP (by simp <;> rfl) ?_; dsimp only [goK])
 refine TW.loopL (fun i : Nat => [(0, l.av cI), (1, .int .i64 n), (4, .bool false), (5, .int .i64 i)]) (fun i _ => i ≤ l.list.length ∧ (l.list.take i).any (fun x => decide (x = n)) = false) (fun i => l.list.length - i) (0) ?_ ?_ ?_
 focus (repeat' first | exact q0c | refine q0b (by simp) ?_)
 ·simp
 rintro i g ⟨hi, hall⟩
 repeat' first | refine TW.seq ?_ | (refine TW.regG hP (by simp <;> rfl) ?_; dsimp only [goK]) | simp only [q0a]
 refine TW.cond hP rfl (fun hc => TW.skip ?_) (fun hc => TW.exit ?_)
 ·simp at hc
  obtain ⟨x, hx⟩ := q0g hc
  have hav := q0z (e := cI) (show 0 < l.list.length by omega)
  have hs := any_take_succ (p := fun x => decide (x = n)) hx
  dsimp only [q0a]
  repeat' first | refine TW.seq ?_ | refine TW.block ?_ | refine TW.skip ?_ | (refine TW.regG hP (by simp [hx, hav] <;> rfl) ?_; dsimp only [goK]) | simp only [q0a, q0d] | (refine TW.cond hP rfl (fun hc => ?_) (fun hc => ?_) <;> simp at hc) | (refine TW.ret ⟨.inr rfl, _, _, rfl, rfl, ?_⟩; dsimp only [q0h])
  ·rw [in27, any_true_of hx (by simp [hc])]
  ·refine ⟨i + 1, by omega, trivial, ?_, by omega, by rw [hs, hall]; simp [hc]⟩
   repeat' first | exact q0c | refine q0b (by simp [hav, w64s (show i < 9000000000000000000 by omega)]) ?_
 ·simp at hc
  dsimp only [q0a]
  rw [List.take_of_length_le hc] at hall
  repeat' first | refine TW.seq ?_ | (refine TW.regG hP (by simp <;> rfl) ?_; dsimp only [goK]) | simp only [q0a] | (refine TW.ret ⟨.inr rfl, _, _, rfl, rfl, ?_⟩; dsimp only [q0h])
  rw [in27, hall]
def z0h (a b : List Int) : Bool := decide (a = b)
theorem take_succ_eq {α : Type} {a b : List α} {i : Nat} {x y : α} (hx : a[i]? = some x) (hy : b[i]? = some y) (he : a.take i = b.take i) (h : x = y) : a.take (i + 1) = b.take (i + 1) := by
 obtain ⟨h1, rfl⟩ := List.getElem?_eq_some_iff.1 hx
 obtain ⟨h2, rfl⟩ := List.getElem?_eq_some_iff.1 hy
 rw [List.take_succ_eq_append_getElem h1, List.take_succ_eq_append_getElem h2, he, h]
theorem q8a (hP : POk Tryz.prog F gl K) (a b : Sl Int) (hlen : a.list.length < 1000000) : q0y Tryz.prog F q3c [a.av cI, b.av cI] (.bool (z0h a.list b.list)) := by
 refine CallsT.pure (O := fun u _ => u = .bool (z0h a.list b.list)) (k := 1) (by simp) ?_ (fun u g e => by subst e; rfl)
 refine CallsT.body hP q0e q8E rfl rfl ?_
 by_cases hl : a.list.length = b.list.length
 ·repeat' first | refine TW.seq ?_ | refine TW.block ?_ | refine TW.skip ?_ | refine TW.condF hP rfl ?_ | (refine TW.regG hP (by simp [hl] <;> rfl) ?_; dsimp only [goK])
  refine TW.loopL (fun i : Nat => [(0, a.av cI), (1, b.av cI), (4, .bool false), (5, .int .i64 i)]) (fun i _ => i ≤ a.list.length ∧ a.list.take i = b.list.take i) (fun i => a.list.length - i) (0) ?_ ?_ ?_
  focus (repeat' first | exact q0c | refine q0b (by simp) ?_)
  ·simp
  rintro i g ⟨hi, hall⟩
  repeat' first | refine TW.seq ?_ | (refine TW.regG hP (by simp <;> rfl) ?_; dsimp only [goK]) | simp only [q0a]
  refine TW.cond hP rfl (fun hc => TW.skip ?_) (fun hc => TW.exit ?_)
  ·simp at hc
   obtain ⟨x, hx⟩ := q0g hc
   obtain ⟨y, hy⟩ := q0g (show i < b.list.length by omega)
   have hav := q0z (e := cI) (show 0 < a.list.length by omega)
   have hbv := q0z (e := cI) (show 0 < b.list.length by omega)
   dsimp only [q0a]
   repeat' first | refine TW.seq ?_ | refine TW.block ?_ | refine TW.skip ?_ | (refine TW.regG hP (by simp <;> rfl) ?_; dsimp only [goK]) | (refine TW.drawQ hP [] (fun e he => by cases he) (by kernel_rfl) (by simp [hx, hy, hav, hbv] <;> rfl) ?_; dsimp only) | simp only [q0a, q0d] | (refine TW.cond hP rfl (fun hc => ?_) (fun hc => ?_) <;> simp at hc) | (refine TW.ret ⟨.inr rfl, _, _, rfl, rfl, ?_⟩; dsimp only [q0h])
   ·rw [z0h, decide_eq_false]
    intro e
    rw [e, hy] at hx
    exact hc (Option.some.inj hx).symm
   ·refine ⟨i + 1, by omega, trivial, ?_, by omega, take_succ_eq hx hy hall hc⟩
    repeat' first | exact q0c | refine q0b (by simp [hav, hbv, w64s (show i < 9000000000000000000 by omega)]) ?_
  ·simp at hc
   dsimp only [q0a]
   rw [List.take_of_length_le hc, List.take_of_length_le (by omega)] at hall
   repeat' first | refine TW.seq ?_ | (refine TW.regG hP (by simp <;> rfl) ?_; dsimp only [goK]) | simp only [q0a] | (refine TW.ret ⟨.inr rfl, _, _, rfl, rfl, ?_⟩; dsimp only [q0h])
   rw [z0h, decide_eq_true hall]
 ·repeat' first | refine TW.seq ?_ | refine TW.block ?_ | refine TW.skip ?_ | (refine TW.regG hP (by simp <;> rfl) ?_; dsimp only [goK]) | simp only [q0a] | (refine TW.cond hP rfl (fun hc => ?_) (fun hc => ?_) <;> simp at hc) | (refine TW.ret ⟨.inr rfl, _, _, rfl, rfl, ?_⟩; dsimp only [q0h])
  ·rw [z0h, decide_eq_false (fun e => hl (by rw [e]))]
  ·exfalso; omega
def q6O (x y : LIns) : Bool := decide (x.op = y.op) && (decide (x.type = y.type) && (decide (x.a = y.a) && (decide (x.b = y.b) && (decide (x.n = y.n) && (z0h x.args.list y.args.list && z0h x.frm.list y.frm.list)))))
def q4F {α : Type} (p : α → α → Bool) : List α → List α → Bool
 | [], [] => true
 | x :: l, y :: k => p x y && q4F p l k
 | _, _ => false
theorem q6T {α : Type} {p : α → α → Bool} : ∀ {l k : List α}, l.length = k.length → ((∀ (i : Nat) (x y : α), l[i]? = some x → k[i]? = some y → p x y = true) ↔ q4F p l k = true)
  | [], [], _ => by simp [q4F]
  | x :: l, y :: k, h => by
    simp only [q4F, Bool.and_eq_true]
    rw [← q6T (l := l) (k := k) (by simpa using h)]
    constructor
    · intro hh; exact ⟨hh 0 x y rfl rfl, fun i a b ha hb => hh (i + 1) a b ha hb⟩
    · rintro ⟨h1, h2⟩ i a b ha hb
      cases i with
      | zero => simp at ha hb; subst ha hb; exact h1
      | succ i => exact h2 i a b ha hb
  | [], _ :: _, h => by simp at h
  | _ :: _, [], h => by simp at h
theorem q8Q {α : Type} {p : α → α → Bool} : ∀ {l k : List α}, l.length ≠ k.length → q4F p l k = false
 | [], [], h => absurd rfl h
 | x :: l, y :: k, h => by simp only [q4F]; rw [q8Q (l := l) (k := k) (by simpa using h), Bool.and_false]
 | [], _ :: _, _ => rfl
 | _ :: _, [], _ => rfl
theorem sameIns_pure (hP : POk Tryz.prog F gl K) (hX : ∀ f a, K.ext f a = none) (a b : Sl LIns) (hlen : a.list.length < 1000000) (ha : ∀ x ∈ a.list, x.args.list.length < 1000000 ∧ x.frm.list.length < 1000000) : q0y Tryz.prog F q2C [a.av LIns.cells, b.av LIns.cells] (.bool (q4F q6O a.list b.list)) := by
  refine CallsT.pure (O := fun u _ => u = .bool (q4F q6O a.list b.list)) (k := 1) (by simp) ?_ (fun u g e => by subst e; rfl)
  refine CallsT.body hP q0e q9q rfl rfl ?_
  by_cases hl : a.list.length = b.list.length
  · repeat' first | refine TW.seq ?_ | refine TW.block ?_ | refine TW.skip ?_ | refine TW.condF hP rfl ?_ | (refine TW.regG hP (by simp [hl] <;> rfl) ?_; dsimp only [goK])
    refine TW.loopL (fun i : Nat => [(0, a.av LIns.cells), (1, b.av LIns.cells), (4, .bool false), (5, .int .i64 i)]) (fun i _ => i ≤ a.list.length ∧ ∀ (j : Nat) (x y : LIns), j < i → a.list[j]? = some x → b.list[j]? = some y → q6O x y = true) (fun i => a.list.length - i) (0) ?_ ?_ ?_
    focus (repeat' first | exact q0c | refine q0b (by simp) ?_)
    · exact ⟨Nat.zero_le _, fun j x y hj => absurd hj (Nat.not_lt_zero _)⟩
    rintro i g ⟨hi, hall⟩
    repeat' first | refine TW.seq ?_ | (refine TW.regG hP (by simp <;> rfl) ?_; dsimp only [goK]) | simp only [q0a]
    refine TW.cond hP rfl (fun hc => TW.skip ?_) (fun hc => TW.exit ?_)
    · simp at hc
      obtain ⟨x, hx⟩ := q0g hc
      obtain ⟨y, hy⟩ := q0g (show i < b.list.length by omega)
      have hi2 := hc
      have hav := q0z (e := LIns.cells) (show 0 < a.list.length by omega)
      have hbv := q0z (e := LIns.cells) (show 0 < b.list.length by omega)
      obtain ⟨hx1, hx2⟩ := ha x (List.mem_of_getElem? hx)
      have e1 := q8a hP x.args y.args hx1
      have e2 := q8a hP x.frm y.frm hx2
      have bad : q6O x y = false → AV.bool false = .bool (q4F q6O a.list b.list) := fun h => by
        cases hs : q4F q6O a.list b.list with
        | false => rfl
        | true => have := (q6T hl).2 hs i x y hx hy; rw [h] at this; cases this
      dsimp only [q0a]
      repeat' first | refine TW.seq ?_ | refine TW.block ?_
      try refine TW.seq ?_
      refine TW.drawH hP [] (fun e he => by cases he) [0, 0, 3, 7, 0, 0, 48, 112, 0, 0, 783, 2047] (by kernel_rfl) (by kernel_rfl) (by simp [hx, hy, hav, hbv, oneD, fpAt, fpOf, q0v, ldOf, q0T, q0m, FP.clash, FP.hard, FP.soft, overlap, inR, q0A, q1T, Nat.testBit, show ¬ g.nx + 1 ≤ g.nx by omega, show ¬ g.nx + 2 ≤ g.nx + 1 by omega] <;> rfl) ?_
      repeat' (refine q1A (fun hb => ?_) (fun hb => ?_) <;> (try simp only [Bool.not_eq_eq_eq_not, Bool.not_true, Bool.not_false] at hb) <;> refine q4H (by simp [hb, hX, hx, hy, hav, hbv, oneD, fpAt, fpOf, q0v, ldOf, q0T, q0m, FP.clash, FP.hard, FP.soft, overlap, inR, q0A, q1T, Nat.testBit, show ¬ g.nx + 1 ≤ g.nx by omega, show ¬ g.nx + 2 ≤ g.nx by omega, show ¬ g.nx + 2 ≤ g.nx + 1 by omega, show ¬ g.nx + 3 ≤ g.nx by omega, show ¬ g.nx + 3 ≤ g.nx + 1 by omega, show ¬ g.nx + 3 ≤ g.nx + 2 by omega] <;> rfl) ?_)
      all_goals dsimp only [okD, q0a]
      refine TW.gen (fun k => k.get g.nx = some (.cells q0M x.cells) ∧ k.get (g.nx + 1) = some (.cells q0M y.cells)) ⟨by simp, by simp⟩ fun k hk => ?_
      obtain ⟨k1, k2⟩ := hk
      dsimp only [q0M] at k1 k2
      repeat' first | refine TW.seq ?_ | refine TW.skip ?_ | refine TW.condT hP rfl ?_ | (refine TW.regG hP (by simp [k1, k2] <;> rfl) ?_; dsimp only [goK]) | (refine q0E (fun hb => ?_) (fun hb => ?_) <;> (try simp only [Bool.not_eq_eq_eq_not, Bool.not_true, Bool.not_false] at hb) <;> (refine q2c (by simp [hb, k1, k2] <;> rfl) ?_; dsimp only [goK])) | (refine TO.scall hP q3d (e1) ?_ rfl rfl rfl rfl ?_; (focus (simp; done)); refine TO.runsG hP (by simp <;> rfl) ?_; dsimp only [goK]) | (refine TO.scall hP q3d (e2) ?_ rfl rfl rfl rfl ?_; (focus (simp; done)); refine TO.runsG hP (by simp <;> rfl) ?_; dsimp only [goK]) | simp only [q0a, q0d] | (refine TW.cond hP rfl (fun hc => ?_) (fun hc => ?_) <;> simp at hc) | (refine TW.ret ⟨.inr rfl, _, _, rfl, rfl, ?_⟩; dsimp only [q0h])
      all_goals clear e1 e2
      all_goals first
        | (exact bad (by clear hall bad; simp_all [q6O]))
        | (have hs : q6O x y = true := by clear hall bad; simp_all [q6O]
           refine ⟨i + 1, by omega, trivial, ?_, by omega, fun j u v hj hu hv => ?_⟩
           · repeat' first | exact q0c | refine q0b (by simp [hav, hbv, w64s (show i < 9000000000000000000 by omega)]) ?_
           · by_cases h : j = i
             · subst h; rw [hx] at hu; rw [hy] at hv; cases hu; cases hv; exact hs
             · exact hall j u v (by omega) hu hv)
    · simp at hc
      dsimp only [q0a]
      repeat' first | refine TW.seq ?_ | (refine TW.regG hP (by simp <;> rfl) ?_; dsimp only [goK]) | simp only [q0a] | (refine TW.ret ⟨.inr rfl, _, _, rfl, rfl, ?_⟩; dsimp only [q0h])
      rw [(q6T hl).1 fun j x y hx hy => hall j x y (by have := (List.getElem?_eq_some_iff.1 hx).1; omega) hx hy]
  · repeat' first | refine TW.seq ?_ | refine TW.block ?_ | refine TW.skip ?_ | (refine TW.regG hP (by simp <;> rfl) ?_; dsimp only [goK]) | simp only [q0a] | (refine TW.cond hP rfl (fun hc => ?_) (fun hc => ?_) <;> simp at hc) | (refine TW.ret ⟨.inr rfl, _, _, rfl, rfl, ?_⟩; dsimp only [q0h])
    · rw [q8Q hl]
    · exfalso; omega
def q6r (x y : LEnd) : Bool := decide (x.kind = y.kind) && (decide (x.a = y.a) && (decide (x.to = y.to) && decide (x.els = y.els)))
theorem neq_end (hE : K.eqT q6o = true) (x y : LEnd) : q0Z (Ctx.of Tryz.prog gl K) .neq q6o (.agg x.cells) (.agg y.cells) = some (.bool (!q6r x y)) := by
 have h1 : (Ctx.of Tryz.prog gl K).eqT q6o = true := hE
 show (bif q6Q (Ctx.of Tryz.prog gl K) q6o (.agg x.cells) (.agg y.cells) then (match eqA (Ctx.of Tryz.prog gl K) 100 q6o (.agg x.cells) (.agg y.cells) with | some b => some (AV.bool (!b)) | none => none) else none) = _
 have h2 : q6Q (Ctx.of Tryz.prog gl K) q6o (.agg x.cells) (.agg y.cells) = true := h1
 have h3 : eqA (Ctx.of Tryz.prog gl K) 100 q6o (.agg x.cells) (.agg y.cells) = some (q6r x y) := by
  dsimp only [q6o] at h1 ⊢
  by_cases e1 : x.kind = y.kind <;> by_cases e2 : x.a = y.a <;> by_cases e3 : x.to = y.to <;> by_cases e4 : x.els = y.els <;>
   simp [eqA, eqStep, eqFields, h1, q6r, e1, e2, e3, e4, q2t, q8L, LEnd.cells]
 rw [h2, h3]; rfl
def q2L (x y : LBlock) : Bool := q6r x.ed y.ed && q4F q6O x.ins.list y.ins.list
set_option maxHeartbeats 2000000 in
theorem sameBlocks_pure (hP : POk Tryz.prog F gl K) (hX : ∀ f a, K.ext f a = none) (hE : K.eqT q6o = true) (a b : Sl LBlock) (hlen : a.list.length < 1000000) (ha : ∀ x ∈ a.list, x.ins.list.length < 1000000 ∧ ∀ y ∈ x.ins.list, y.args.list.length < 1000000 ∧ y.frm.list.length < 1000000) : q0y Tryz.prog F q1Q [a.av LBlock.cells, b.av LBlock.cells] (.bool (q4F q2L a.list b.list)) := by
  refine CallsT.pure (O := fun u _ => u = .bool (q4F q2L a.list b.list)) (k := 1) (by simp) ?_ (fun u g e => by subst e; rfl)
  refine CallsT.body hP q0e q7F rfl rfl ?_
  by_cases hl : a.list.length = b.list.length
  · repeat' first | refine TW.seq ?_ | refine TW.block ?_ | refine TW.skip ?_ | refine TW.condF hP rfl ?_ | (refine TW.regG hP (by simp [hl] <;> rfl) ?_; dsimp only [goK])
    refine TW.loopL (fun i : Nat => [(0, a.av LBlock.cells), (1, b.av LBlock.cells), (4, .bool false), (5, .int .i64 i)]) (fun i _ => i ≤ a.list.length ∧ ∀ (j : Nat) (x y : LBlock), j < i → a.list[j]? = some x → b.list[j]? = some y → q2L x y = true) (fun i => a.list.length - i) (0) ?_ ?_ ?_
    focus (repeat' first | exact q0c | refine q0b (by simp) ?_)
    · exact ⟨Nat.zero_le _, fun j x y hj => absurd hj (Nat.not_lt_zero _)⟩
    rintro i g ⟨hi, hall⟩
    repeat' first | refine TW.seq ?_ | (refine TW.regG hP (by simp <;> rfl) ?_; dsimp only [goK]) | simp only [q0a]
    refine TW.cond hP rfl (fun hc => TW.skip ?_) (fun hc => TW.exit ?_)
    · simp at hc
      obtain ⟨x, hx⟩ := q0g hc
      obtain ⟨y, hy⟩ := q0g (show i < b.list.length by omega)
      have hi2 := hc
      have hav := q0z (e := LBlock.cells) (show 0 < a.list.length by omega)
      have hbv := q0z (e := LBlock.cells) (show 0 < b.list.length by omega)
      obtain ⟨hx1, hx2⟩ := ha x (List.mem_of_getElem? hx)
      have e1 := sameIns_pure hP hX x.ins y.ins hx1 hx2
      have hq2 := fun T => neq_end (gl := gl) (K := K.tell T) hE x.ed y.ed
      dsimp only [q6o, LEnd.cells] at hq2
      have bad : q2L x y = false → AV.bool false = .bool (q4F q2L a.list b.list) := fun h => by
        cases hs : q4F q2L a.list b.list with
        | false => rfl
        | true => have := (q6T hl).2 hs i x y hx hy; rw [h] at this; cases this
      dsimp only [q0a]
      repeat' first | refine TW.seq ?_ | refine TW.block ?_
      try refine TW.seq ?_
      refine TW.drawG hP [(q2C, [x.ins.av LIns.cells, y.ins.av LIns.cells], .bool (q4F q6O x.ins.list y.ins.list))] (fun e he => by rcases List.mem_cons.1 he with rfl | he; exact e1; cases he) (by kernel_rfl) (by simp [hx, hy, hav, hbv, hq2, q2C] <;> rfl) ?_
      repeat' (refine q2V (fun hb => ?_) (fun hb => ?_) <;> (try simp only [Bool.not_eq_eq_eq_not, Bool.not_true, Bool.not_false] at hb) <;> refine q8q (by simp [hb, hX, hx, hy, q9m, q9v] <;> rfl) ?_)
      all_goals dsimp only [okQ, q0a]
      · cases hm : q4F q6O x.ins.list y.ins.list with
        | false =>
          repeat' first | refine TW.seq ?_ | refine TW.condT hP rfl ?_ | (refine TW.regG hP (by simp <;> rfl) ?_; dsimp only [goK]) | simp only [q0a] | (refine TW.ret ⟨.inr rfl, _, _, rfl, rfl, ?_⟩; dsimp only [q0h])
          all_goals exact bad (by simp [q2L, hm])
        | true =>
          repeat' first | refine TW.skip ?_ | refine TW.condF hP rfl ?_ | (refine TW.regG hP (by simp <;> rfl) ?_; dsimp only [goK]) | simp only [q0d]
          refine ⟨i + 1, by omega, trivial, ?_, by omega, fun j u v hj hu hv => ?_⟩
          · repeat' first | exact q0c | refine q0b (by simp [hav, hbv, w64s (show i < 9000000000000000000 by omega)]) ?_
          · by_cases h : j = i
            · subst h; rw [hx] at hu; rw [hy] at hv; cases hu; cases hv; simp_all [q2L]
            · exact hall j u v (by omega) hu hv
      · repeat' first | refine TW.seq ?_ | refine TW.condT hP rfl ?_ | (refine TW.regG hP (by simp <;> rfl) ?_; dsimp only [goK]) | simp only [q0a] | (refine TW.ret ⟨.inr rfl, _, _, rfl, rfl, ?_⟩; dsimp only [q0h])
        all_goals exact bad (by simp_all [q2L])
    · simp at hc
      dsimp only [q0a]
      repeat' first | refine TW.seq ?_ | (refine TW.regG hP (by simp <;> rfl) ?_; dsimp only [goK]) | simp only [q0a] | (refine TW.ret ⟨.inr rfl, _, _, rfl, rfl, ?_⟩; dsimp only [q0h])
      rw [(q6T hl).1 fun j x y hx hy => hall j x y (by have := (List.getElem?_eq_some_iff.1 hx).1; omega) hx hy]
  · repeat' first | refine TW.seq ?_ | refine TW.block ?_ | refine TW.skip ?_ | (refine TW.regG hP (by simp <;> rfl) ?_; dsimp only [goK]) | simp only [q0a] | (refine TW.cond hP rfl (fun hc => ?_) (fun hc => ?_) <;> simp at hc) | (refine TW.ret ⟨.inr rfl, _, _, rfl, rfl, ?_⟩; dsimp only [q0h])
    · rw [q8Q hl]
    · exfalso; omega
def q3y (x y : LType) : Bool := decide (x.kind = y.kind) && (decide (x.elem = y.elem) && (decide (x.many = y.many) && z0h x.parts.list y.parts.list))
theorem bad_of {α : Type} {p : α → α → Bool} {a b : List α} (hl : a.length = b.length) {i : Nat} {x y : α} (hx : a[i]? = some x) (hy : b[i]? = some y) (h : p x y = false) : AV.bool false = .bool (q4F p a b) := by
 cases hs : q4F p a b with
 | false => rfl
 | true => have := (q6T hl).2 hs i x y hx hy; rw [h] at this; cases this
theorem all_next {α : Type} {p : α → α → Bool} {a b : List α} {i : Nat} {x y : α} (hx : a[i]? = some x) (hy : b[i]? = some y) (hall : ∀ (j : Nat) (x y : α), j < i → a[j]? = some x → b[j]? = some y → p x y = true) (h : p x y = true) :
  ∀ (j : Nat) (x y : α), j < i + 1 → a[j]? = some x → b[j]? = some y → p x y = true := fun j u v hj hu hv => by
 by_cases e : j = i
 ·subst e; rw [hx] at hu; rw [hy] at hv; cases hu; cases hv; exact h
 ·exact hall j u v (by omega) hu hv
theorem Same3_pure (hP : POk Tryz.prog F gl K) (hX : ∀ f a, K.ext f a = none) (a b : Sl LType) (hlen : a.list.length < 1000000) (ha : ∀ x ∈ a.list, x.parts.list.length < 1000000) : q0y Tryz.prog F q5d [a.av LType.cells, b.av LType.cells] (.bool (q4F q3y a.list b.list)) := by
  refine CallsT.pure (O := fun u _ => u = .bool (q4F q3y a.list b.list)) (k := 1) (by simp) ?_ (fun u g e => by subst e; rfl)
  refine CallsT.body hP q0e E_fescueref03_Same rfl rfl ?_
  by_cases hl : a.list.length = b.list.length
  · repeat' first | refine TW.seq ?_ | refine TW.block ?_ | refine TW.skip ?_ | refine TW.condF hP rfl ?_ | (refine TW.regG hP (by simp [hl] <;> rfl) ?_; dsimp only [goK])
    refine TW.loopL (fun i : Nat => [(0, a.av LType.cells), (1, b.av LType.cells), (4, .bool false), (5, .int .i64 i)]) (fun i _ => i ≤ a.list.length ∧ ∀ (j : Nat) (x y : LType), j < i → a.list[j]? = some x → b.list[j]? = some y → q3y x y = true) (fun i => a.list.length - i) (0) ?_ ?_ ?_
    focus (repeat' first | exact q0c | refine q0b (by simp) ?_)
    · exact ⟨Nat.zero_le _, fun j x y hj => absurd hj (Nat.not_lt_zero _)⟩
    rintro i g ⟨hi, hall⟩
    repeat' first | refine TW.seq ?_ | (refine TW.regG hP (by simp <;> rfl) ?_; dsimp only [goK]) | simp only [q0a]
    refine TW.cond hP rfl (fun hc => TW.skip ?_) (fun hc => TW.exit ?_)
    · simp at hc
      obtain ⟨x, hx⟩ := q0g hc
      obtain ⟨y, hy⟩ := q0g (show i < b.list.length by omega)
      have hi2 := hc
      have hav := q0z (e := LType.cells) (show 0 < a.list.length by omega)
      have hbv := q0z (e := LType.cells) (show 0 < b.list.length by omega)
      have hx1 := ha x (List.mem_of_getElem? hx)
      have bad := bad_of (p := q3y) hl hx hy
      dsimp only [q0a]
      repeat' first | refine TW.seq ?_ | refine TW.block ?_
      try refine TW.seq ?_
      refine TW.drawG hP [] (fun e he => by cases he) (by kernel_rfl) (by simp [hx, hy, hav, hbv] <;> rfl) ?_
      repeat' (refine q2V (fun hb => ?_) (fun hb => ?_) <;> (try simp only [Bool.not_eq_eq_eq_not, Bool.not_true, Bool.not_false] at hb) <;> refine q8q (by simp [hb, hx, hy] <;> rfl) ?_)
      all_goals dsimp only [okQ, q0a]
      · repeat' first | refine TW.seq ?_ | refine TW.block ?_ | refine TW.skip ?_ | (refine TW.regG hP (by simp <;> rfl) ?_; dsimp only [goK]) | simp only [q0a] | (refine TW.cond hP rfl (fun hc => ?_) (fun hc => ?_) <;> simp at hc) | (refine TW.ret ⟨.inr rfl, _, _, rfl, rfl, ?_⟩; dsimp only [q0h])
        · exact bad (by simp_all [q3y, z0h]; intro e; simp_all)
        refine TW.loopL (fun j : Nat => [(0, a.av LType.cells), (1, b.av LType.cells), (4, .bool false), (5, .int .i64 i), (6, .int .i64 j)]) (fun j _ => j ≤ x.parts.list.length ∧ x.parts.list.take j = y.parts.list.take j) (fun j => x.parts.list.length - j) (0) ?_ ?_ ?_
        focus (repeat' first | exact q0c | refine q0b (by simp [hav, hbv]) ?_)
        · simp
        rintro j g ⟨hj, hall2⟩
        repeat' first | refine TW.seq ?_ | (refine TW.regG hP (by simp [hx, hav] <;> rfl) ?_; dsimp only [goK]) | simp only [q0a]
        refine TW.cond hP rfl (fun hc => TW.skip ?_) (fun hc => TW.exit ?_)
        · simp at hc
          obtain ⟨u, hu⟩ := q0g hc
          obtain ⟨v, hv⟩ := q0g (show j < y.parts.list.length by omega)
          have hpx := q0z (e := cI) (show 0 < x.parts.list.length by omega)
          have hpy := q0z (e := cI) (show 0 < y.parts.list.length by omega)
          dsimp only [q0a]
          repeat' first | refine TW.seq ?_ | refine TW.block ?_
          try refine TW.seq ?_
          refine TW.drawG hP [] (fun e he => by cases he) (by kernel_rfl) (by simp [hx, hy, hbv, hu, hv, hpx, hpy] <;> rfl) ?_
          repeat' (refine q2V (fun hb => ?_) (fun hb => ?_) <;> (try simp only [Bool.not_eq_eq_eq_not, Bool.not_true, Bool.not_false] at hb) <;> refine q8q (by simp [hb, hX, hx, hy, hav, hbv, hu, hv, hpx, hpy] <;> rfl) ?_)
          all_goals dsimp only [okQ, q0a]
          repeat' first | refine TW.seq ?_ | refine TW.skip ?_ | (refine TW.regG hP (by simp <;> rfl) ?_; dsimp only [goK]) | simp only [q0a, q0d] | (refine TW.cond hP rfl (fun hc => ?_) (fun hc => ?_) <;> simp at hc) | (refine TW.ret ⟨.inr rfl, _, _, rfl, rfl, ?_⟩; dsimp only [q0h])
          · exact bad (by
              cases hs : q3y x y with
              | false => rfl
              | true =>
                simp [q3y, z0h] at hs
                rw [hs.2.2.2, hv] at hu
                exact absurd (Option.some.inj hu).symm hc)
          · refine ⟨j + 1, by omega, trivial, ?_, by omega, take_succ_eq hu hv hall2 hc⟩
            repeat' first | exact q0c | refine q0b (by simp [hav, hbv, w64s (show j < 9000000000000000000 by omega)]) ?_
        · simp at hc
          dsimp only [q0a]
          repeat' first | (refine TW.regG hP (by simp <;> rfl) ?_; dsimp only [goK]) | simp only [q0d]
          rw [List.take_of_length_le hc, List.take_of_length_le (by omega)] at hall2
          refine ⟨i + 1, by omega, trivial, ?_, by omega, all_next hx hy hall (by simp_all [q3y, z0h])⟩
          repeat' first | exact q0c | refine q0b (by simp [hav, hbv, w64s (show i < 9000000000000000000 by omega)]) ?_
      all_goals
        repeat' first | refine TW.seq ?_ | refine TW.condT hP rfl ?_ | (refine TW.regG hP (by simp <;> rfl) ?_; dsimp only [goK]) | simp only [q0a] | (refine TW.ret ⟨.inr rfl, _, _, rfl, rfl, ?_⟩; dsimp only [q0h])
      all_goals exact bad (by simp_all [q3y])
    · simp at hc
      dsimp only [q0a]
      repeat' first | refine TW.seq ?_ | (refine TW.regG hP (by simp <;> rfl) ?_; dsimp only [goK]) | simp only [q0a] | (refine TW.ret ⟨.inr rfl, _, _, rfl, rfl, ?_⟩; dsimp only [q0h])
      rw [(q6T hl).1 fun j x y hx hy => hall j x y (by have := (List.getElem?_eq_some_iff.1 hx).1; omega) hx hy]
  · repeat' first | refine TW.seq ?_ | refine TW.block ?_ | refine TW.skip ?_ | (refine TW.regG hP (by simp <;> rfl) ?_; dsimp only [goK]) | simp only [q0a] | (refine TW.cond hP rfl (fun hc => ?_) (fun hc => ?_) <;> simp at hc) | (refine TW.ret ⟨.inr rfl, _, _, rfl, rfl, ?_⟩; dsimp only [q0h])
    · rw [q8Q hl]
    · exfalso; omega
def sameFn (x y : LFunc) : Bool := decide (x.sig = y.sig) && q4F q2L x.blocks.list y.blocks.list
def z0g (p q : LProg) : Bool := q4F q3y p.types.list q.types.list && q4F sameFn p.funcs.list q.funcs.list
theorem z1x {x : LBlock} : ∀ {l : List LBlock}, x ∈ l → (x.ins.list.length : Int) ≤ q0q l
  | [], h => by cases h
  | a :: l, h => by
    have h1 := q0J l
    rcases List.mem_cons.1 h with rfl | h
    · simp only [q0q]; omega
    · have := z1x h; simp only [q0q]; omega
theorem SmallF.blk {f : LFunc} (h : SmallF f) : f.blocks.list.length < 1000000 ∧ ∀ x ∈ f.blocks.list, x.ins.list.length < 1000000 ∧ ∀ y ∈ x.ins.list, y.args.list.length < 1000000 ∧ y.frm.list.length < 1000000 := by
 refine ⟨by have := h.nb; omega, fun x hx => ⟨?_, fun y hy => ?_⟩⟩
 ·have h1 := h.many
  have := z1x hx
  omega
 ·have h1 := h.args x hx y hy
  have h2 := h.frm x hx y hy
  omega
set_option maxHeartbeats 1000000 in
theorem Same6_pure (hP : POk Tryz.prog F gl K) (hX : ∀ f a, K.ext f a = none) (hE : K.eqT q6o = true) (p q : LProg) (hs : SmallP p) : q0y Tryz.prog F q4Y [.agg p.cells, .agg q.cells] (.bool (z0g p q)) := by
  refine CallsT.pure (O := fun u _ => u = .bool (z0g p q)) (k := 1) (by simp) ?_ (fun u g e => by subst e; rfl)
  refine CallsT.body hP q0e E_fescueref06_Same rfl rfl ?_
  have e1 := Same3_pure hP hX p.types q.types (by have := hs.nt; omega) (fun x hx => by have := hs.parts x hx; omega)
  by_cases hl : p.funcs.list.length = q.funcs.list.length
  · cases ht : q4F q3y p.types.list q.types.list with
    | false =>
      rw [ht] at e1
      repeat' first | refine TW.seq ?_ | refine TW.condT hP rfl ?_ | (refine TW.regG hP (by simp [hl] <;> rfl) ?_; dsimp only [goK]) | (refine TO.scall hP q5h (e1) ?_ rfl rfl rfl rfl ?_; (focus (simp; done)); refine TO.runsG hP (by simp <;> rfl) ?_; dsimp only [goK]) | simp only [q0a] | (refine TW.ret ⟨.inr rfl, _, _, rfl, rfl, ?_⟩; dsimp only [q0h])
      all_goals simp [z0g, ht]
    | true =>
    rw [ht] at e1
    repeat' first | refine TW.seq ?_ | refine TW.block ?_ | refine TW.skip ?_ | refine TW.condF hP rfl ?_ | (refine TW.regG hP (by simp [hl] <;> rfl) ?_; dsimp only [goK]) | (refine TO.scall hP q5h (e1) ?_ rfl rfl rfl rfl ?_; (focus (simp; done)); refine TO.runsG hP (by simp <;> rfl) ?_; dsimp only [goK])
    refine TW.loopL (fun i : Nat => [(2, .ptr 0 0), (3, .ptr 1 0), (4, .bool false), (5, .int .i64 i)]) (fun i g => i ≤ p.funcs.list.length ∧ g.get 0 = some (.cells q0k p.cells) ∧ g.get 1 = some (.cells q0k q.cells) ∧ ∀ (j : Nat) (x y : LFunc), j < i → p.funcs.list[j]? = some x → q.funcs.list[j]? = some y → sameFn x y = true) (fun i => p.funcs.list.length - i) (0) ?_ ?_ ?_
    focus (repeat' first | exact q0c | refine q0b (by simp) ?_)
    · exact ⟨Nat.zero_le _, by simp, by simp, fun j x y hj => absurd hj (Nat.not_lt_zero _)⟩
    rintro i g ⟨hi, hg0, hg1, hall⟩
    dsimp only [q0k, LProg.cells] at hg0 hg1
    repeat' first | refine TW.seq ?_ | (refine TW.regG hP (by simp [hg0] <;> rfl) ?_; dsimp only [goK]) | simp only [q0a]
    refine TW.cond hP rfl (fun hc => TW.skip ?_) (fun hc => TW.exit ?_)
    · simp at hc
      obtain ⟨x, hx⟩ := q0g hc
      obtain ⟨y, hy⟩ := q0g (show i < q.funcs.list.length by omega)
      have hav := q0z (e := LFunc.cells) (show 0 < p.funcs.list.length by omega)
      have hbv := q0z (e := LFunc.cells) (show 0 < q.funcs.list.length by omega)
      have hnf := hs.nf
      have hsf := (hs.funcs x (List.mem_of_getElem? hx)).blk
      have e2 := sameBlocks_pure hP hX hE x.blocks y.blocks hsf.1 hsf.2
      have bad : sameFn x y = false → AV.bool false = .bool (z0g p q) := fun h => by
        rw [z0g, ht, Bool.true_and]; exact bad_of hl hx hy h
      dsimp only [q0a]
      repeat' first | refine TW.seq ?_ | refine TW.block ?_
      try refine TW.seq ?_
      refine TW.drawG hP [(q1Q, [x.blocks.av LBlock.cells, y.blocks.av LBlock.cells], .bool (q4F q2L x.blocks.list y.blocks.list))] (fun e he => by rcases List.mem_cons.1 he with rfl | he; exact e2; cases he) (by kernel_rfl) (by simp [hg0, hg1, hx, hy, hav, hbv, q1Q] <;> rfl) ?_
      repeat' (refine q2V (fun hb => ?_) (fun hb => ?_) <;> (try simp only [Bool.not_eq_eq_eq_not, Bool.not_true, Bool.not_false] at hb) <;> refine q8q (by simp [hb, hX, hg0, hg1, hx, hy, hav, hbv, q7E, q7G] <;> rfl) ?_)
      all_goals dsimp only [okQ, q0a]
      all_goals clear e1 e2
      all_goals
        repeat' first | refine TW.seq ?_ | refine TW.skip ?_ | refine TW.condT hP rfl ?_ | (refine TW.regG hP (by simp <;> rfl) ?_; dsimp only [goK]) | simp only [q0a, q0d] | (refine TW.cond hP rfl (fun hc => ?_) (fun hc => ?_) <;> simp at hc) | (refine TW.ret ⟨.inr rfl, _, _, rfl, rfl, ?_⟩; dsimp only [q0h])
      all_goals first
        | exact bad (by simp_all [sameFn])
        | (refine ⟨i + 1, by omega, trivial, ?_, by omega, by simpa using hg0, by simpa using hg1, all_next hx hy hall (by simp_all [sameFn])⟩
           (repeat' first | exact q0c | refine q0b (by simp [w64s (show i < 9000000000000000000 by omega)]) ?_))
    · simp at hc
      dsimp only [q0a]
      repeat' first | refine TW.seq ?_ | (refine TW.regG hP (by simp <;> rfl) ?_; dsimp only [goK]) | simp only [q0a] | (refine TW.ret ⟨.inr rfl, _, _, rfl, rfl, ?_⟩; dsimp only [q0h])
      rw [z0g, ht, (q6T hl).1 fun j x y hx hy => hall j x y (by have := (List.getElem?_eq_some_iff.1 hx).1; omega) hx hy]
      rfl
  · repeat' first | refine TW.seq ?_ | refine TW.block ?_ | refine TW.skip ?_ | refine TW.condT hP rfl ?_ | (refine TW.regG hP (by simp <;> rfl) ?_; dsimp only [goK]) | (refine q0E (fun hb => ?_) (fun hb => ?_) <;> (try simp only [Bool.not_eq_eq_eq_not, Bool.not_true, Bool.not_false] at hb) <;> (refine q2c (by simp [hb] <;> rfl) ?_; dsimp only [goK])) | (refine TO.scall hP q5h (e1) ?_ rfl rfl rfl rfl ?_; (focus (simp; done)); refine TO.runsG hP (by simp <;> rfl) ?_; dsimp only [goK]) | simp only [q0a] | (refine TW.cond hP rfl (fun hc => ?_) (fun hc => ?_) <;> simp at hc) | (refine TW.ret ⟨.inr rfl, _, _, rfl, rfl, ?_⟩; dsimp only [q0h])
    all_goals first | (exfalso; simp at hb; omega) | (simp_all [z0g, q8Q]; done)
end Go.Ax
