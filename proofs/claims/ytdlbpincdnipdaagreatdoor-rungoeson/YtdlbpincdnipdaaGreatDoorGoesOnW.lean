/- RunGoesOn, walked: it comes to true, whatever the three machines. -/
import Derived.Test.YtdlbpincdnipdaaGreatDoorKeepsC
namespace Go.Proofs.YtdlbpincdnipdaaGreatDoor
open Go.ChangeShapes Go.WideShapes Go.ChangeAt Go.WideMaps Go.WideElems Go.RowKit Go.Ax
variable {gl : Nat → AV} {K : Knob}
theorem ltI_irr (a : Int) : ltI a a = false := by
  cases a with
  | ofNat n => exact ltI_false (Nat.le_refl n)
  | negSucc n => exact ltI_false (Nat.le_refl n)
theorem ltI_spec (a b : Int) : ltI a b = true ↔ a < b := by
  cases a with
  | ofNat x => cases b with
    | ofNat y =>
      show Nat.ble (x + 1) y = true ↔ (Int.ofNat x < Int.ofNat y)
      rw [show (Nat.ble (x + 1) y = true) = (x + 1 ≤ y) from propext ⟨Nat.le_of_ble_eq_true, Nat.ble_eq_true_of_le⟩]
      simp only [Int.ofNat_eq_natCast]; omega
    | negSucc y => exact ⟨fun h => (by cases h), fun h => absurd h (by have h1 := Int.negSucc_lt_zero y; have h2 : (0 : Int) ≤ Int.ofNat x := Int.natCast_nonneg x; omega)⟩
  | negSucc x => cases b with
    | ofNat y => exact ⟨fun _ => (by have h1 := Int.negSucc_lt_zero x; have h2 : (0 : Int) ≤ Int.ofNat y := Int.natCast_nonneg y; omega), fun _ => rfl⟩
    | negSucc y =>
      show Nat.ble (y + 1) x = true ↔ _
      rw [show (Nat.ble (y + 1) x = true) = (y + 1 ≤ x) from propext ⟨Nat.le_of_ble_eq_true, Nat.ble_eq_true_of_le⟩]
      omega
theorem preB_iff {a b : List (Nat × Int)} : preB a b = true ↔ a.length ≤ b.length ∧ ∀ i, i < a.length → a[i]? = b[i]? := by
  unfold preB
  rw [Bool.and_eq_true, decide_eq_true_eq]
  exact ⟨fun ⟨h, k⟩ => ⟨Nat.le_of_ble_eq_true h, k⟩, fun ⟨h, k⟩ => ⟨Nat.ble_eq_true_of_le h, k⟩⟩
/-- Each keeps itself. -/
theorem keepsB_refl (a : List (Nat × Int)) (s : Nat) (h x : Int) : keepsB a a s s h h x x = true := by
  unfold keepsB
  rw [preB_iff.2 ⟨Nat.le_refl _, fun _ _ => rfl⟩, Nat.beq_refl, eqI_refl, ltI_irr]
  cases Nat.beq s 2 <;> rfl
/-- What keeps one that keeps a third keeps that. -/
theorem keepsB_trans {a b c : List (Nat × Int)} {sa sb sc : Nat} {ha hb hc xa xb xc : Int} (h : keepsB a b sa sb ha hb xa xb = true) (k : keepsB b c sb sc hb hc xb xc = true) : keepsB a c sa sc ha hc xa xc = true := by
  unfold keepsB at h k ⊢
  simp only [Bool.and_eq_true, Bool.or_eq_true, Bool.not_eq_true'] at h k ⊢
  obtain ⟨h1, h2⟩ := h
  obtain ⟨k1, k2⟩ := k
  obtain ⟨p1, p2⟩ := preB_iff.1 h1
  obtain ⟨q1, q2⟩ := preB_iff.1 k1
  refine ⟨preB_iff.2 ⟨by omega, fun i hi => (p2 i hi).trans (q2 i (by omega))⟩, ?_⟩
  rcases h2 with h2 | ⟨h2, h3, h4, h5⟩
  · exact .inl h2
  · rcases k2 with k2 | ⟨k2, k3, k4, k5⟩
    · rw [k2] at h2; cases h2
    · refine .inr ⟨k2, ?_, ?_, ?_⟩
      · rw [Nat.eq_of_beq_eq_true h3]; exact k3
      · rw [eqI_eq' h4]; exact k4
      · cases hl : ltI ha hc with
        | false => rfl
        | true =>
          have e1 : ¬ ltI ha hb = true := by rw [h5]; exact Bool.false_ne_true
          have e2 : ¬ ltI hb hc = true := by rw [k5]; exact Bool.false_ne_true
          rw [ltI_spec] at e1 e2
          have e3 := (ltI_spec ha hc).1 hl
          omega

theorem ag34 : isAg (C0 gl K) 34 10 = true := by kernel_rfl
theorem fn7 : (C0 gl K).fn.get 7 = some Tryz.f7 := by kernel_rfl
theorem fn18 : (C0 gl K).fn.get 18 = some Tryz.f18 := by kernel_rfl
theorem body7 : Tryz.f7.body = some (bodyOf Tryz.f7) := rfl
theorem body18 : Tryz.f18.body = some (bodyOf Tryz.f18) := rfl
theorem call_told {C : Ctx} {ih : Code → St → Res} {f : FuncId} {fn : Func} {c : Code} {zs : List AV} {v : AV} {h : Hp} (hf : C.fn.get f = some fn) (hb : fn.body = some c) (ho : C.orc f zs = some v) : callF C ih f zs h = some (.val v h) := by
  unfold callF
  rw [hf]
  dsimp only
  rw [hb]
  dsimp only
  rw [ho]
theorem bgtr {x : Nat} {b : Bool} (h : Nat.blt 200 x = b) : binOpA (C0 gl K) .gtr 3 (.int .i64 (.ofNat x)) (.int .i64 200) = some (.bool b) := by subst h; rfl
structure Inv3 (A B D : List AV) (r3 r4 r5 : Nat) (hh h : Hp) : Prop where
  a : h.get r3 = some (.cells 34 A)
  b : h.get r4 = some (.cells 34 B)
  c : h.get r5 = some (.cells 34 D)
  la : r3 < h.nx
  lb : r4 < h.nx
  lc : r5 < h.nx
  grow : Grow hh h
  lo : h.lo ≤ h.nx
theorem Inv3.to {A B D : List AV} {r3 r4 r5 : Nat} {hh h g : Hp} (I : Inv3 A B D r3 r4 r5 hh h) (k : Grow h g) : Inv3 A B D r3 r4 r5 hh g :=
  ⟨(k.get _ I.la).trans I.a, (k.get _ I.lb).trans I.b, (k.get _ I.lc).trans I.c, Nat.lt_of_lt_of_le I.la k.nx, Nat.lt_of_lt_of_le I.lb k.nx, Nat.lt_of_lt_of_le I.lc k.nx, I.grow.trans k, k.low I.lo⟩
theorem un_not {b : Bool} : unOpA .not (.bool b) = some (.bool (!b)) := rfl
theorem ld34 {m0 m1 m2 m3 m5 m8 : AV} {E : Option (List (Nat × Int))} {hp ex : Int} {st r : Nat} {h : Hp} (hg : h.get r = some (.cells 34 (mach m0 m1 m2 m3 E m5 hp st m8 ex))) : loadAt (C0 gl K) 34 (.ptr r 0) h = some (.agg (mach m0 m1 m2 m3 E m5 hp st m8 ex)) := by
  rw [load_ag ag34 hg]; rfl
theorem le200 {x : Nat} (h : Nat.blt 200 x = false) : x ≤ 200 := by
  rcases Nat.lt_or_ge 200 x with h1 | h1
  · have : Nat.blt 200 x = true := Nat.ble_eq_true_of_le h1
    rw [this] at h; cases h
  · exact h1
attribute [local irreducible] fieldAt loadAt lenOfA binOpA opA callF
variable {a0 a1 a2 a3 a5 a8 b0 b1 b2 b3 b5 b8 d0 d1 d2 d3 d5 d8 : AV} {ea eb ed : Option (List (Nat × Int))} {ha hb hd xa xb xd : Int} {sa sb sd : Nat}
set_option maxHeartbeats 8000000 in
theorem goesOn_wp (hq : K.eqT 108 = true) (ho : ∀ zs, K.orc 22 zs = none) (ho18 : K.orc 18 [] = some (.bool true)) (oa : okEv ea) (ob : okEv eb) (od : okEv ed) (h : Hp) (s : St) (hlo : h.lo ≤ h.nx)
    (hs : At s 53 [(0, .agg (mach a0 a1 a2 a3 ea a5 ha sa a8 xa)), (1, .agg (mach b0 b1 b2 b3 eb b5 hb sb b8 xb)), (2, .agg (mach d0 d1 d2 d3 ed d5 hd sd d8 xd))] h) :
    Wp Tryz.prog (C0 gl K) (bodyOf Tryz.f7) s fun e s' => (e = .normal ∨ e = .ret) ∧ ∃ g, Grow h g ∧ At s' 53 [(6, .bool true)] g := by
  refine Wp.seq (Wp.region hs (OpsTo.step rfl rfl rfl (oBox rfl rfl) <| OpsTo.step rfl rfl rfl (oBox rfl rfl) <| OpsTo.step rfl rfl rfl (oBox rfl rfl) <| OpsTo.step rfl rfl rfl (oAssign rfl) (OpsTo.nil fun s hs => ?_)))
  have I : Inv3 (mach a0 a1 a2 a3 ea a5 ha sa a8 xa) (mach b0 b1 b2 b3 eb b5 hb sb b8 xb) (mach d0 d1 d2 d3 ed d5 hd sd d8 xd) h.nx (h.nx + 1) (h.nx + 2) h (((h.new (.cells 34 (mach a0 a1 a2 a3 ea a5 ha sa a8 xa))).new (.cells 34 (mach b0 b1 b2 b3 eb b5 hb sb b8 xb))).new (.cells 34 (mach d0 d1 d2 d3 ed d5 hd sd d8 xd))) := by
    refine ⟨?_, ?_, ?_, ?_, ?_, ?_, ((Grow.new _ _).trans (Grow.new _ _)).trans (Grow.new _ _), ?_⟩
    · rw [Hp.get_new, if_neg (by show h.nx + 1 + 1 ≠ h.nx; omega), Hp.get_new, if_neg (by show h.nx + 1 ≠ h.nx; omega), Hp.get_new, if_pos rfl]
    · rw [Hp.get_new, if_neg (by show h.nx + 1 + 1 ≠ h.nx + 1; omega), Hp.get_new]; exact if_pos rfl
    · rw [Hp.get_new]; exact if_pos rfl
    · show h.nx < h.nx + 1 + 1 + 1; omega
    · show h.nx + 1 < h.nx + 1 + 1 + 1; omega
    · show h.nx + 2 < h.nx + 1 + 1 + 1; omega
    · show h.lo ≤ h.nx + 1 + 1 + 1; omega
  have hs := hs.less (l' := [(5, .ptr (h.nx + 2) 0), (4, .ptr (h.nx + 1) 0), (3, .ptr h.nx 0)]) (lessB_cons rfl <| lessB_cons rfl <| lessB_cons rfl lessB_nil)
  generalize ((h.new (.cells 34 (mach a0 a1 a2 a3 ea a5 ha sa a8 xa))).new (.cells 34 (mach b0 b1 b2 b3 eb b5 hb sb b8 xb))).new (.cells 34 (mach d0 d1 d2 d3 ed d5 hd sd d8 xd)) = g at hs I
  generalize h.nx + 2 = r5 at hs I
  generalize h.nx + 1 = r4 at hs I
  generalize h.nx = r3 at hs I
  repeat refine Wp.seq ?_
  refine Wp.regionC (m := 0) hs (OpsTo.step rfl rfl rfl (oCall (fun _ _ => rfl) (call_told fn18 body18 ho18)) <| OpsTo.step rfl rfl rfl (oAssign rfl) (OpsTo.nil fun s hs => ?_))
  have hs := hs.less (l' := [(7, .bool true), (5, .ptr r5 0), (4, .ptr r4 0), (3, .ptr r3 0)]) (lessB_cons rfl <| lessB_cons rfl <| lessB_cons rfl <| lessB_cons rfl lessB_nil)
  repeat refine Wp.seq ?_
  have short : ∀ {s : St} {bb : Bool}, bb = true → At s 53 [(28, .bool bb), (7, .bool true)] g → True := fun _ _ => trivial
  cases c1 : Nat.blt 200 (evl ea).length <;> cases c2 : Nat.blt 200 (evl eb).length <;> cases c3 : Nat.blt 200 (evl ed).length
  all_goals
    refine Wp.region hs ?_
    repeat
      first
        | refine OpsTo.step rfl rfl rfl (oField rfl (f34_4 _ _)) ?_
        | refine OpsTo.step rfl rfl rfl (oLoad rfl ((load_sc sc31 I.a).trans rfl)) ?_
        | refine OpsTo.step rfl rfl rfl (oLen rfl (len_ev _ _)) ?_
        | refine OpsTo.step rfl rfl rfl (oBin rfl rfl rfl (bgtr c1)) ?_
        | refine OpsTo.step rfl rfl rfl (oMove rfl) ?_
        | refine OpsTo.step rfl rfl rfl (oPick rfl rfl) ?_
        | refine OpsTo.gskip rfl rfl rfl rfl rfl rfl ?_
        | refine OpsTo.gno rfl rfl rfl rfl rfl rfl ?_
        | refine OpsTo.gyes rfl rfl rfl rfl rfl rfl (oMove rfl) ?_
        | refine OpsTo.gyes rfl rfl rfl rfl rfl rfl (oField rfl (f34_4 _ _)) ?_
        | refine OpsTo.gyes rfl rfl rfl rfl rfl rfl (oLoad rfl ((load_sc sc31 I.b).trans rfl)) ?_
        | refine OpsTo.gyes rfl rfl rfl rfl rfl rfl (oLoad rfl ((load_sc sc31 I.c).trans rfl)) ?_
        | refine OpsTo.gyes rfl rfl rfl rfl rfl rfl (oLen rfl (len_ev _ _)) ?_
        | refine OpsTo.gyes rfl rfl rfl rfl rfl rfl (oBin rfl rfl rfl (bgtr c2)) ?_
        | refine OpsTo.gyes rfl rfl rfl rfl rfl rfl (oBin rfl rfl rfl (bgtr c3)) ?_
        | refine OpsTo.gyes rfl rfl rfl rfl rfl rfl (oUn rfl un_not) ?_
    refine OpsTo.nil fun s hs => ?_
    refine Wp.cond hs rfl ?_
    dsimp only [cond]
  rotate_left
  all_goals try exact Wp.seq (Wp.region hs (OpsTo.step rfl rfl rfl (oMove rfl) <| OpsTo.step rfl rfl rfl (oAssign rfl) (OpsTo.nil fun s hs => Wp.ret ⟨.inr rfl, g, I.grow, hs.less (lessB_cons rfl lessB_nil)⟩)))
  refine Wp.skip ?_
  repeat refine Wp.seq ?_
  have hs := hs.less (l' := [(7, .bool true), (5, .ptr r5 0), (4, .ptr r4 0), (3, .ptr r3 0)]) (lessB_cons rfl <| lessB_cons rfl <| lessB_cons rfl <| lessB_cons rfl lessB_nil)
  have v1 := keepsB_refl (evl ea) sa ha xa
  have k1 : ∃ n g', call Tryz.prog (C0 gl K) n 22 [.agg (mach a0 a1 a2 a3 ea a5 ha sa a8 xa), .agg (mach a0 a1 a2 a3 ea a5 ha sa a8 xa)] g = some (.val (.bool (keepsB (evl ea) (evl ea) sa sa ha ha xa xa)) g') ∧ Grow g g' := keeps_call hq ho (le200 c1) oa oa g I.lo
  rw [v1] at k1
  obtain ⟨n1, g1, k1, G1⟩ := k1
  have I1 := I.to G1
  obtain ⟨n2, g2, k2, G2⟩ : ∃ n g', call Tryz.prog (C0 gl K) n 22 [.agg (mach a0 a1 a2 a3 ea a5 ha sa a8 xa), .agg (mach b0 b1 b2 b3 eb b5 hb sb b8 xb)] g1 = some (.val (.bool (keepsB (evl ea) (evl eb) sa sb ha hb xa xb)) g') ∧ Grow g1 g' := keeps_call hq ho (le200 c1) oa ob g1 I1.lo
  have I2 := I1.to G2
  obtain ⟨n3, g3, k3, G3⟩ : ∃ n g', call Tryz.prog (C0 gl K) n 22 [.agg (mach b0 b1 b2 b3 eb b5 hb sb b8 xb), .agg (mach d0 d1 d2 d3 ed d5 hd sd d8 xd)] g2 = some (.val (.bool (keepsB (evl eb) (evl ed) sb sd hb hd xb xd)) g') ∧ Grow g2 g' := keeps_call hq ho (le200 c2) ob od g2 I2.lo
  have I3 := I2.to G3
  obtain ⟨n4, g4, k4, G4⟩ : ∃ n g', call Tryz.prog (C0 gl K) n 22 [.agg (mach a0 a1 a2 a3 ea a5 ha sa a8 xa), .agg (mach d0 d1 d2 d3 ed d5 hd sd d8 xd)] g3 = some (.val (.bool (keepsB (evl ea) (evl ed) sa sd ha hd xa xd)) g') ∧ Grow g3 g' := keeps_call hq ho (le200 c1) oa od g3 I3.lo
  have I4 := I3.to G4
  have e1 : callF (C0 gl K) (exec Tryz.prog (C0 gl K) (n1 + n2 + n3 + n4)) 22 _ g = _ := call_mono (by omega) k1
  have e2 : callF (C0 gl K) (exec Tryz.prog (C0 gl K) (n1 + n2 + n3 + n4)) 22 _ g1 = _ := call_mono (by omega) k2
  have e3 : callF (C0 gl K) (exec Tryz.prog (C0 gl K) (n1 + n2 + n3 + n4)) 22 _ g2 = _ := call_mono (by omega) k3
  have e4 : callF (C0 gl K) (exec Tryz.prog (C0 gl K) (n1 + n2 + n3 + n4)) 22 _ g3 = _ := call_mono (by omega) k4
  have v4 : keepsB (evl ea) (evl eb) sa sb ha hb xa xb = true → keepsB (evl eb) (evl ed) sb sd hb hd xb xd = true → keepsB (evl ea) (evl ed) sa sd ha hd xa xd = true := keepsB_trans
  clear k1 k2 k3 k4 v1
  generalize keepsB (evl ea) (evl eb) sa sb ha hb xa xb = b1 at e2 v4
  generalize keepsB (evl eb) (evl ed) sb sd hb hd xb xd = b2 at e3 v4
  generalize keepsB (evl ea) (evl ed) sa sd ha hd xa xd = b3 at e4 v4
  generalize n1 + n2 + n3 + n4 = m at e1 e2 e3 e4
  cases b1 <;> cases b2 <;> cases b3
  all_goals try exact absurd (v4 rfl rfl) Bool.false_ne_true
  all_goals
    refine Wp.regionC (m := m) hs ?_
    repeat
      first
        | refine OpsTo.step rfl rfl rfl (oMove rfl) ?_
        | refine OpsTo.step rfl rfl rfl (oAssign rfl) ?_
        | refine OpsTo.step rfl rfl rfl (oPick rfl rfl) ?_
        | refine OpsTo.gskip rfl rfl rfl rfl rfl rfl ?_
        | refine OpsTo.gno rfl rfl rfl rfl rfl rfl ?_
        | refine OpsTo.gyes rfl rfl rfl rfl rfl rfl (oMove rfl) ?_
        | refine OpsTo.gyes rfl rfl rfl rfl rfl rfl (oPick rfl rfl) ?_
        | refine OpsTo.gyes rfl rfl rfl rfl rfl rfl (oUn rfl un_not) ?_
        | refine OpsTo.gyes rfl rfl rfl rfl rfl rfl (oLoad rfl (ld34 I.a)) ?_
        | refine OpsTo.gyes rfl rfl rfl rfl rfl rfl (oLoad rfl (ld34 I1.a)) ?_
        | refine OpsTo.gyes rfl rfl rfl rfl rfl rfl (oLoad rfl (ld34 I1.b)) ?_
        | refine OpsTo.gyes rfl rfl rfl rfl rfl rfl (oLoad rfl (ld34 I2.b)) ?_
        | refine OpsTo.gyes rfl rfl rfl rfl rfl rfl (oLoad rfl (ld34 I2.c)) ?_
        | refine OpsTo.gyes rfl rfl rfl rfl rfl rfl (oLoad rfl (ld34 I3.a)) ?_
        | refine OpsTo.gyes rfl rfl rfl rfl rfl rfl (oLoad rfl (ld34 I3.c)) ?_
        | refine OpsTo.gyes rfl rfl rfl rfl rfl rfl (oCall2 rfl rfl e1) ?_
        | refine OpsTo.gyes rfl rfl rfl rfl rfl rfl (oCall2 rfl rfl e2) ?_
        | refine OpsTo.gyes rfl rfl rfl rfl rfl rfl (oCall2 rfl rfl e3) ?_
        | refine OpsTo.gyes rfl rfl rfl rfl rfl rfl (oCall2 rfl rfl e4) ?_
    refine OpsTo.nil fun s hs => ?_
  all_goals first
    | exact Wp.ret ⟨.inr rfl, g2, I2.grow, hs.less (lessB_cons rfl lessB_nil)⟩
    | exact Wp.ret ⟨.inr rfl, g3, I3.grow, hs.less (lessB_cons rfl lessB_nil)⟩
    | exact Wp.ret ⟨.inr rfl, g4, I4.grow, hs.less (lessB_cons rfl lessB_nil)⟩
end Go.Proofs.YtdlbpincdnipdaaGreatDoor
