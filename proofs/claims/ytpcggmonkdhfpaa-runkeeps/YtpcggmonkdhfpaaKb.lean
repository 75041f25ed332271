/- RunKeeps: the document's answer, fescueref17.Keeps, walked: it answers the same. -/
import Derived.Test.YtpcggmonkdhfpaaKa
namespace Go.Proofs.Ytpcggmonkdhfpaa
open Go.ChangeShapes Go.WideShapes Go.ChangeAt Go.WideMaps Go.WideElems Go.RowKit Go.Ax
variable {gl : Nat → AV} {K : Knob}
variable {a0 a1 a2 a3 a5 a8 b0 b1 b2 b3 b5 b8 : AV} {ea eb : Option (List (Nat × Int))} {ha hb xa xb : Int} {sa sb : Nat}
theorem st31 : isSt2 (C0 gl K) 31 .u8 .i64 = true := by kernel_rfl
theorem bneS (hq : K.eqT 31 = true) (a b c d : Int) : binOpA (C0 gl K) .neq 31 (.agg [.int .u8 a, .int .i64 b]) (.agg [.int .u8 c, .int .i64 d]) = some (.bool (!(eqI a c && eqI b d))) := by
  have hq' : (C0 gl K).eqT 31 = true := hq
  have h : eqA (C0 gl K) 100 31 (.agg [.int .u8 a, .int .i64 b]) (.agg [.int .u8 c, .int .i64 d]) = some (eqI a c && eqI b d) := eqA_st2 st31 hq' 98
  rw [bin_neq_agg, hq', h]; rfl
theorem bgeq {x y : Nat} {b : Bool} (h : Nat.blt x y = b) : binOpA (C0 gl K) .geq 3 (.int .i64 (.ofNat x)) (.int .i64 (.ofNat y)) = some (.bool (!b)) := by subst h; rfl
attribute [local irreducible] fieldAt loadAt lenOfA binOpA opA callF
set_option maxHeartbeats 8000000 in
theorem ref_wp (hq : K.eqT 31 = true) (hl : (evl ea).length ≤ 200) (h : Hp) (s : St) (hlo : h.lo ≤ h.nx) (hs : At s 60 [(0, .agg (mach a0 a1 a2 a3 ea a5 ha sa a8 xa)), (1, .agg (mach b0 b1 b2 b3 eb b5 hb sb b8 xb))] h) :
    Wp Try.prog (C0 gl K) (bodyOf Try.f5) s fun e s' => (e = .normal ∨ e = .ret) ∧ ∃ g, Grow h g ∧ At s' 60 [(4, .bool (keepsB (evl ea) (evl eb) sa sb ha hb xa xb))] g := by
  refine Wp.seq (Wp.region hs (OpsTo.step rfl rfl rfl (oBox rfl rfl) <| OpsTo.step rfl rfl rfl (oBox rfl rfl) <| OpsTo.step rfl rfl rfl (oAssign rfl) (OpsTo.nil fun s hs => ?_)))
  have I : Inv (mach a0 a1 a2 a3 ea a5 ha sa a8 xa) (mach b0 b1 b2 b3 eb b5 hb sb b8 xb) h.nx (h.nx + 1) h ((h.new (.cells 28 (mach a0 a1 a2 a3 ea a5 ha sa a8 xa))).new (.cells 28 (mach b0 b1 b2 b3 eb b5 hb sb b8 xb))) := by
    refine ⟨?_, ?_, ?_, ?_, (Grow.new _ _).trans (Grow.new _ _), ?_⟩
    · rw [Hp.get_new, if_neg (by show h.nx + 1 ≠ h.nx; omega), Hp.get_new, if_pos rfl]
    · rw [Hp.get_new]; exact if_pos rfl
    · show h.nx < h.nx + 1 + 1; omega
    · show h.nx + 1 < h.nx + 1 + 1; omega
    · show h.lo ≤ h.nx + 1 + 1; omega
  have hs := hs.less (l' := [(3, .ptr (h.nx + 1) 0), (2, .ptr h.nx 0)]) (lessB_cons rfl <| lessB_cons rfl lessB_nil)
  generalize (h.new (.cells 28 (mach a0 a1 a2 a3 ea a5 ha sa a8 xa))).new (.cells 28 (mach b0 b1 b2 b3 eb b5 hb sb b8 xb)) = g at hs I
  generalize h.nx + 1 = r3 at hs I
  generalize h.nx = r2 at hs I
  repeat refine Wp.seq ?_
  refine Wp.region hs (OpsTo.step rfl rfl rfl (oAssign rfl) (OpsTo.nil fun s hs => ?_))
  have hs := hs.less (l' := [(5, .int .i64 (.ofNat 0)), (3, .ptr r3 0), (2, .ptr r2 0)]) (lessB_cons rfl <| lessB_cons rfl <| lessB_cons rfl lessB_nil)
  -- the loop
  refine Wp.mono (Q := fun e s' => (e = .ret ∧ preB (evl ea) (evl eb) = false ∧ At s' 60 [(4, .bool false)] g) ∨ (e = .normal ∧ preB (evl ea) (evl eb) = true ∧ At s' 60 [(3, .ptr r3 0), (2, .ptr r2 0)] g)) (Wp.block ?_) ?_
  · obtain ⟨i, hi⟩ : ∃ i, i = 0 := ⟨0, rfl⟩
    have hs : At s 60 [(5, .int .i64 (.ofNat i)), (3, .ptr r3 0), (2, .ptr r2 0)] g := by rw [hi]; exact hs
    have hle : i ≤ (evl ea).length := by omega
    have hleb : i ≤ (evl eb).length := by omega
    have hpre : ∀ j, j < i → (evl ea)[j]? = (evl eb)[j]? := fun j hj => by omega
    clear hi hlo
    repeat (rename_i z; clear z)
    obtain ⟨k, hk⟩ : ∃ k, k = (evl ea).length - i := ⟨_, rfl⟩
    induction k generalizing i s with
    | zero =>
      have he : i = (evl ea).length := by omega
      refine Wp.loop ?_
      repeat refine Wp.seq ?_
      refine Wp.region hs (OpsTo.step rfl rfl rfl (oMove rfl) <| OpsTo.step rfl rfl rfl (oField rfl (f34_4 _ _)) <| OpsTo.step rfl rfl rfl (oLoad rfl ((load_sc sc31 I.a).trans rfl)) <| OpsTo.step rfl rfl rfl (oLen rfl (len_ev _ _)) <| OpsTo.step rfl rfl rfl (oBin rfl rfl rfl bLss) (OpsTo.nil fun s hs => ?_))
      repeat refine Wp.seq ?_
      refine Wp.cond hs rfl ?_
      rw [ltI_false (by omega)]
      refine Wp.exit (.inr ⟨rfl, ?_, hs.less (lessB_cons rfl <| lessB_cons rfl lessB_nil)⟩)
      unfold preB
      rw [Nat.ble_eq_true_of_le (by omega)]
      exact decide_eq_true fun j hj => hpre j (by omega)
    | succ k ih =>
      have hlt' : i < (evl ea).length := by omega
      refine Wp.loop ?_
      repeat refine Wp.seq ?_
      refine Wp.region hs (OpsTo.step rfl rfl rfl (oMove rfl) <| OpsTo.step rfl rfl rfl (oField rfl (f34_4 _ _)) <| OpsTo.step rfl rfl rfl (oLoad rfl ((load_sc sc31 I.a).trans rfl)) <| OpsTo.step rfl rfl rfl (oLen rfl (len_ev _ _)) <| OpsTo.step rfl rfl rfl (oBin rfl rfl rfl bLss) (OpsTo.nil fun s hs => ?_))
      repeat refine Wp.seq ?_
      refine Wp.cond hs rfl ?_
      rw [ltI_true hlt']
      refine Wp.skip ?_
      have hs := hs.less (l' := [(5, .int .i64 (.ofNat i)), (3, .ptr r3 0), (2, .ptr r2 0)]) (lessB_cons rfl <| lessB_cons rfl <| lessB_cons rfl lessB_nil)
      repeat refine Wp.seq ?_
      refine Wp.block ?_
      repeat refine Wp.seq ?_
      cases hib : Nat.blt i (evl eb).length with
      | false =>
        have hge : (evl eb).length ≤ i := by
          rcases Nat.lt_or_ge i (evl eb).length with h1 | h1
          · have : Nat.blt i (evl eb).length = true := Nat.ble_eq_true_of_le h1
            rw [this] at hib; cases hib
          · exact h1
        refine Wp.draw hs (by kernel_rfl) (by kernel_rfl) I.lo ?_
        repeat
          first
            | refine OpsTo.step rfl rfl rfl (oMove rfl) ?_
            | refine OpsTo.step rfl rfl rfl (oField rfl (f34_4 _ _)) ?_
            | refine OpsTo.step rfl rfl rfl (oLoad rfl ((load_sc sc31 I.b).trans rfl)) ?_
            | refine OpsTo.step rfl rfl rfl (oLen rfl (len_ev _ _)) ?_
            | refine OpsTo.step rfl rfl rfl (oBin rfl rfl rfl (bgeq hib)) ?_
            | refine OpsTo.step rfl rfl rfl (oPick rfl rfl) ?_
            | refine OpsTo.gno rfl rfl rfl rfl rfl rfl ?_
        refine OpsTo.nil fun s hs => ?_
        refine Wp.cond hs rfl ?_
        refine Wp.seq (Wp.region hs (OpsTo.step rfl rfl rfl (oAssign rfl) (OpsTo.nil fun s hs => Wp.ret (.inl ⟨rfl, ?_, hs.less (lessB_cons rfl lessB_nil)⟩))))
        unfold preB
        cases hb : Nat.ble (evl ea).length (evl eb).length with
        | false => rfl
        | true => have := Nat.le_of_ble_eq_true hb; omega
      | true =>
        have hltb : i < (evl eb).length := Nat.le_of_ble_eq_true hib
        have hpa : (evl ea)[i]? = some (evl ea)[i] := List.getElem?_eq_getElem hlt'
        have hpb : (evl eb)[i]? = some (evl eb)[i] := List.getElem?_eq_getElem hltb
        generalize (evl ea)[i] = pa at hpa
        generalize (evl eb)[i] = pb at hpb
        obtain ⟨la, ea1, ea2⟩ := ev_at hpa
        obtain ⟨lb, eb1, eb2⟩ := ev_at hpb
        have xa1 : (la.map fun p => [AV.int .u8 (.ofNat p.1), .int .i64 p.2])[i]? = some [.int .u8 (.ofNat pa.1), .int .i64 pa.2] := by rw [List.getElem?_map, ea2]; rfl
        have xb1 : (lb.map fun p => [AV.int .u8 (.ofNat p.1), .int .i64 p.2])[i]? = some [.int .u8 (.ofNat pb.1), .int .i64 pb.2] := by rw [List.getElem?_map, eb2]; rfl
        have ia : indexAt (C0 gl K) 25 (ev ea) (.int .i64 (.ofNat i)) = some (.iptr (la.map fun p => [AV.int .u8 (.ofNat p.1), .int .i64 p.2]) i 0) := by rw [ea1]; exact index_isl sl31 xa1 rfl
        have ib : indexAt (C0 gl K) 25 (ev eb) (.int .i64 (.ofNat i)) = some (.iptr (lb.map fun p => [AV.int .u8 (.ofNat p.1), .int .i64 p.2]) i 0) := by rw [eb1]; exact index_isl sl31 xb1 rfl
        have da : loadAt (C0 gl K) 31 (.iptr (la.map fun p => [AV.int .u8 (.ofNat p.1), .int .i64 p.2]) i 0) g = some (.agg [.int .u8 (.ofNat pa.1), .int .i64 pa.2]) := by rw [load_agi ag53, xa1]; rfl
        have db : loadAt (C0 gl K) 31 (.iptr (lb.map fun p => [AV.int .u8 (.ofNat p.1), .int .i64 p.2]) i 0) g = some (.agg [.int .u8 (.ofNat pb.1), .int .i64 pb.2]) := by rw [load_agi ag53, xb1]; rfl
        refine Wp.draw hs (by kernel_rfl) (by kernel_rfl) I.lo ?_
        repeat
          first
            | refine OpsTo.step rfl rfl rfl (oMove rfl) ?_
            | refine OpsTo.step rfl rfl rfl (oField rfl (f34_4 _ _)) ?_
            | refine OpsTo.step rfl rfl rfl (oLoad rfl ((load_sc sc31 I.b).trans rfl)) ?_
            | refine OpsTo.step rfl rfl rfl (oLen rfl (len_ev _ _)) ?_
            | refine OpsTo.step rfl rfl rfl (oBin rfl rfl rfl (bgeq hib)) ?_
            | refine OpsTo.step rfl rfl rfl (oPick rfl rfl) ?_
            | refine OpsTo.gyes rfl rfl rfl rfl rfl rfl (oMove rfl) ?_
            | refine OpsTo.gyes rfl rfl rfl rfl rfl rfl (oField rfl (f34_4 _ _)) ?_
            | refine OpsTo.gyes rfl rfl rfl rfl rfl rfl (oLoad rfl ((load_sc sc31 I.a).trans rfl)) ?_
            | refine OpsTo.gyes rfl rfl rfl rfl rfl rfl (oLoad rfl ((load_sc sc31 I.b).trans rfl)) ?_
            | refine OpsTo.gyes rfl rfl rfl rfl rfl rfl (oIndex rfl rfl ia) ?_
            | refine OpsTo.gyes rfl rfl rfl rfl rfl rfl (oIndex rfl rfl ib) ?_
            | refine OpsTo.gyes rfl rfl rfl rfl rfl rfl (oLoad rfl da) ?_
            | refine OpsTo.gyes rfl rfl rfl rfl rfl rfl (oLoad rfl db) ?_
            | refine OpsTo.gyes rfl rfl rfl rfl rfl rfl (oBin rfl rfl rfl (bneS hq _ _ _ _)) ?_
        refine OpsTo.nil fun s hs => ?_
        refine Wp.cond hs rfl ?_
        cases hc : (eqI (Int.ofNat pa.1) (Int.ofNat pb.1) && eqI pa.2 pb.2) with
        | false =>
          refine Wp.seq (Wp.region hs (OpsTo.step rfl rfl rfl (oAssign rfl) (OpsTo.nil fun s hs => Wp.ret (.inl ⟨rfl, ?_, hs.less (lessB_cons rfl lessB_nil)⟩))))
          unfold preB
          rw [decide_eq_false (fun hall => ?_), Bool.and_false]
          have := hall i hlt'
          rw [hpa, hpb] at this
          cases this
          rw [eqI_refl, eqI_refl] at hc
          cases hc
        | true =>
          refine Wp.skip ?_
          refine Wp.region hs (OpsTo.step rfl rfl rfl (oMove rfl) <| OpsTo.step rfl rfl rfl (oBin rfl rfl rfl bAdd) <| OpsTo.step rfl rfl rfl (oAssign rfl) (OpsTo.nil fun s hs => ?_))
          obtain ⟨c1, c2⟩ := and_bool hc
          have hpq : pa = pb := by
            have e1 := eqI_eq' c1
            have e2 := eqI_eq' c2
            cases pa; cases pb
            simp only [Int.ofNat.injEq] at e1 e2
            subst e1 e2; rfl
          refine ih s (i + 1) (hs.less (l' := [(5, .int .i64 (.ofNat (i + 1))), (3, .ptr r3 0), (2, .ptr r2 0)]) (lessB_cons ?_ <| lessB_cons rfl <| lessB_cons rfl lessB_nil)) (by omega) (by omega) (fun j hj => ?_) (by omega)
          · rw [← wrap_succ (show i < 1000000 by omega)]; rfl
          · by_cases hji : j = i
            · rw [hji, hpa, hpb, hpq]
            · exact hpre j (by omega)
  · intro e s1 hc
    rcases hc with ⟨rfl, h1, hs⟩ | ⟨rfl, h1, hs⟩
    · refine ⟨.inr rfl, g, I.grow, ?_⟩
      have : keepsB (evl ea) (evl eb) sa sb ha hb xa xb = false := by unfold keepsB; rw [h1]; rfl
      rw [this]; exact hs
    · repeat refine Wp.seq ?_
      refine Wp.region hs (OpsTo.step rfl rfl rfl (oField rfl (f34_7 _ _)) <| OpsTo.step rfl rfl rfl (oLoad rfl ((load_sc sc5 I.a).trans rfl)) <| OpsTo.step rfl rfl rfl (oBin rfl rfl rfl (bneq rfl)) (OpsTo.nil fun s hs => ?_))
      refine Wp.cond hs rfl ?_
      cases c1 : Nat.beq sa 2 with
      | false =>
        refine Wp.seq (Wp.region hs (OpsTo.step rfl rfl rfl (oAssign rfl) (OpsTo.nil fun s hs => Wp.ret ⟨.inr rfl, g, I.grow, hs.less (lessB_cons (v := .bool (keepsB (evl ea) (evl eb) sa sb ha hb xa xb)) ?_ lessB_nil)⟩)))
        unfold keepsB
        rw [h1, c1]
        rfl
      | true =>
        refine Wp.skip ?_
        repeat refine Wp.seq ?_
        cases c2 : Nat.beq sb 2 <;> cases c3 : Nat.beq (evl ea).length (evl eb).length <;> cases c4 : eqI xa xb
        all_goals
          refine Wp.region hs ?_
          repeat
            first
              | refine OpsTo.step rfl rfl rfl (oField rfl (f34_7 _ _)) ?_
              | refine OpsTo.step rfl rfl rfl (oLoad rfl ((load_sc sc5 I.b).trans rfl)) ?_
              | refine OpsTo.step rfl rfl rfl (oBin rfl rfl rfl (beql c2)) ?_
              | refine OpsTo.step rfl rfl rfl (oMove rfl) ?_
              | refine OpsTo.step rfl rfl rfl (oAssign rfl) ?_
              | refine OpsTo.step rfl rfl rfl (oPick rfl rfl) ?_
              | refine OpsTo.gskip rfl rfl rfl rfl rfl rfl ?_
              | refine OpsTo.gno rfl rfl rfl rfl rfl rfl ?_
              | refine OpsTo.gyes rfl rfl rfl rfl rfl rfl (oField rfl (f34_4 _ _)) ?_
              | refine OpsTo.gyes rfl rfl rfl rfl rfl rfl (oField rfl (f34_6 _ _)) ?_
              | refine OpsTo.gyes rfl rfl rfl rfl rfl rfl (oField rfl (f34_9 _ _)) ?_
              | refine OpsTo.gyes rfl rfl rfl rfl rfl rfl (oLoad rfl ((load_sc sc31 I.a).trans rfl)) ?_
              | refine OpsTo.gyes rfl rfl rfl rfl rfl rfl (oLoad rfl ((load_sc sc31 I.b).trans rfl)) ?_
              | refine OpsTo.gyes rfl rfl rfl rfl rfl rfl (oLoad rfl ((load_sc sc2 I.a).trans rfl)) ?_
              | refine OpsTo.gyes rfl rfl rfl rfl rfl rfl (oLoad rfl ((load_sc sc2 I.b).trans rfl)) ?_
              | refine OpsTo.gyes rfl rfl rfl rfl rfl rfl (oLoad rfl ((load_sc sc3 I.a).trans rfl)) ?_
              | refine OpsTo.gyes rfl rfl rfl rfl rfl rfl (oLoad rfl ((load_sc sc3 I.b).trans rfl)) ?_
              | refine OpsTo.gyes rfl rfl rfl rfl rfl rfl (oLen rfl (len_ev _ _)) ?_
              | refine OpsTo.gyes rfl rfl rfl rfl rfl rfl (oBin rfl rfl rfl (blen c3)) ?_
              | refine OpsTo.gyes rfl rfl rfl rfl rfl rfl (oBin rfl rfl rfl (bext c4)) ?_
              | refine OpsTo.gyes rfl rfl rfl rfl rfl rfl (oBin rfl rfl rfl bGeq) ?_
          refine OpsTo.nil fun s hs => ?_
          refine Wp.ret ⟨.inr rfl, g, I.grow, hs.less (lessB_cons (v := .bool (keepsB (evl ea) (evl eb) sa sb ha hb xa xb)) ?_ lessB_nil)⟩
          unfold keepsB
          rw [h1, c1, c2, c3, c4]
          rfl
end Go.Proofs.Ytpcggmonkdhfpaa
