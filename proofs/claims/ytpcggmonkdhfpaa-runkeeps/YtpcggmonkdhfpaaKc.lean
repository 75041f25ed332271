/- RunKeeps, walked: it comes to true, whatever the two machines. -/
import Derived.Test.YtpcggmonkdhfpaaKb
namespace Go.Proofs.Ytpcggmonkdhfpaa
open Go.ChangeShapes Go.WideShapes Go.ChangeAt Go.WideMaps Go.WideElems Go.RowKit Go.Ax
variable {gl : Nat → AV} {K : Knob}
variable {a0 a1 a2 a3 a5 a8 b0 b1 b2 b3 b5 b8 : AV} {ea eb : Option (List (Nat × Int))} {ha hb xa xb : Int} {sa sb : Nat}
theorem fn3 : (C0 gl K).fn.get 3 = some Try.f3 := by kernel_rfl
theorem fn4 : (C0 gl K).fn.get 4 = some Try.f4 := by kernel_rfl
theorem fn5 : (C0 gl K).fn.get 5 = some Try.f5 := by kernel_rfl
theorem body3 : Try.f3.body = some (bodyOf Try.f3) := rfl
theorem body4 : Try.f4.body = some (bodyOf Try.f4) := rfl
theorem body5 : Try.f5.body = some (bodyOf Try.f5) := rfl
theorem lk2 {x y v : AV} {t : Nat} (h : lk [(0, x), (1, y)] t = some v) : [x, y][t]? = some v := by
  unfold lk at h
  cases h0 : Nat.beq 0 t with
  | true => rw [h0] at h; cases h; rw [← Nat.eq_of_beq_eq_true h0]; rfl
  | false =>
    rw [h0] at h
    dsimp only [cond] at h
    unfold lk at h
    cases h1 : Nat.beq 1 t with
    | true => rw [h1] at h; cases h; rw [← Nat.eq_of_beq_eq_true h1]; rfl
    | false => rw [h1] at h; cases h
theorem keeps_call (hq : K.eqT 32 = true) (ho : ∀ zs, K.orc 4 zs = none) (hl : (evl ea).length ≤ 200) (oa : okEv ea) (ob : okEv eb) (h : Hp) (hlo : h.lo ≤ h.nx) :
    ∃ n h', call Try.prog (C0 gl K) n 4 [.agg (mach a0 a1 a2 a3 ea a5 ha sa a8 xa), .agg (mach b0 b1 b2 b3 eb b5 hb sb b8 xb)] h = some (.val (.bool (keepsB (evl ea) (evl eb) sa sb ha hb xa xb)) h') ∧ Grow h h' := by
  refine callsTo_of fn4 body4 (ho _) rfl (fun h hlo => ?_) h hlo
  refine Wp.mono (keeps_wp (a0 := a0) (a1 := a1) (a2 := a2) (a3 := a3) (a5 := a5) (a8 := a8) (b0 := b0) (b1 := b1) (b2 := b2) (b3 := b3) (b5 := b5) (b8 := b8) (ha := ha) (hb := hb) (xa := xa) (xb := xb) (sa := sa) (sb := sb) hq hl oa ob h _ hlo (at_args fun t v ht => lk2 ht)) fun e s' hs => ?_
  obtain ⟨he, g, hg, hat⟩ := hs
  refine ⟨he, hat.ds, by rw [hat.h]; exact hg, [.bool (keepsB (evl ea) (evl eb) sa sb ha hb xa xb)], ?_, rfl⟩
  show (match resultsA (C0 gl K) s' [] with | some vs => some (tget s'.tm 4 :: vs) | none => none) = _
  rw [hat.tm 4 _ rfl]; rfl
theorem ref_call (hq : K.eqT 31 = true) (ho : ∀ zs, K.orc 5 zs = none) (hl : (evl ea).length ≤ 200) (h : Hp) (hlo : h.lo ≤ h.nx) :
    ∃ n h', call Try.prog (C0 gl K) n 5 [.agg (mach a0 a1 a2 a3 ea a5 ha sa a8 xa), .agg (mach b0 b1 b2 b3 eb b5 hb sb b8 xb)] h = some (.val (.bool (keepsB (evl ea) (evl eb) sa sb ha hb xa xb)) h') ∧ Grow h h' := by
  refine callsTo_of fn5 body5 (ho _) rfl (fun h hlo => ?_) h hlo
  refine Wp.mono (ref_wp (a0 := a0) (a1 := a1) (a2 := a2) (a3 := a3) (a5 := a5) (a8 := a8) (b0 := b0) (b1 := b1) (b2 := b2) (b3 := b3) (b5 := b5) (b8 := b8) (ha := ha) (hb := hb) (xa := xa) (xb := xb) (sa := sa) (sb := sb) hq hl h _ hlo (at_args fun t v ht => lk2 ht)) fun e s' hs => ?_
  obtain ⟨he, g, hg, hat⟩ := hs
  refine ⟨he, hat.ds, by rw [hat.h]; exact hg, [.bool (keepsB (evl ea) (evl eb) sa sb ha hb xa xb)], ?_, rfl⟩
  show (match resultsA (C0 gl K) s' [] with | some vs => some (tget s'.tm 4 :: vs) | none => none) = _
  rw [hat.tm 4 _ rfl]; rfl

theorem ag28 : isAg (C0 gl K) 28 10 = true := by kernel_rfl
theorem bo4 : isBo (C0 gl K) 4 = true := by kernel_rfl
theorem bgtr {x : Nat} {b : Bool} (h : Nat.blt 200 x = b) : binOpA (C0 gl K) .gtr 3 (.int .i64 (.ofNat x)) (.int .i64 200) = some (.bool b) := by subst h; rfl
theorem ld28 {m0 m1 m2 m3 m5 m8 : AV} {E : Option (List (Nat × Int))} {hp ex : Int} {st r : Nat} {h : Hp} (hg : h.get r = some (.cells 28 (mach m0 m1 m2 m3 E m5 hp st m8 ex))) : loadAt (C0 gl K) 28 (.ptr r 0) h = some (.agg (mach m0 m1 m2 m3 E m5 hp st m8 ex)) := by
  rw [load_ag ag28 hg]; rfl
theorem le200 {x : Nat} (h : Nat.blt 200 x = false) : x ≤ 200 := by
  rcases Nat.lt_or_ge 200 x with h1 | h1
  · have : Nat.blt 200 x = true := Nat.ble_eq_true_of_le h1
    rw [this] at h; cases h
  · exact h1
theorem fpLoad {C : Ctx} {n : Nat} {l : Env} {h : Hp} {dd : Option Nat} {t ty : TypeId} {x : Operand} {pos : String} {aft : Array Edge} {gd : Option (Nat × Bool)} {r o : Nat} (hx : evE C l x = some (.ptr r o)) : ∀ s, At s n l h → fpOf C s ⟨dd, .load t x, ty, pos, aft, gd⟩ = some ([r], []) := fun s hs => by
  show some (refOf (s.ev C x), []) = _
  rw [hs.ev hx]; rfl
theorem Inv.to {A B : List AV} {r2 r3 : Nat} {hh h g : Hp} (I : Inv A B r2 r3 hh h) (k : Grow h g) : Inv A B r2 r3 hh g :=
  ⟨(k.get _ I.la).trans I.a, (k.get _ I.lb).trans I.b, Nat.lt_of_lt_of_le I.la k.nx, Nat.lt_of_lt_of_le I.lb k.nx, I.grow.trans k, k.low I.lo⟩
attribute [local irreducible] fieldAt loadAt lenOfA binOpA opA callF fpOf
set_option maxHeartbeats 8000000 in
theorem law_wp (hq : K.eqT 32 = true) (hq2 : K.eqT 31 = true) (ho : ∀ zs, K.orc 4 zs = none) (ho2 : ∀ zs, K.orc 5 zs = none) (oa : okEv ea) (ob : okEv eb) (h : Hp) (s : St) (hlo : h.lo ≤ h.nx)
    (hs : At s 22 [(0, .agg (mach a0 a1 a2 a3 ea a5 ha sa a8 xa)), (1, .agg (mach b0 b1 b2 b3 eb b5 hb sb b8 xb))] h) :
    Wp Try.prog (C0 gl K) (bodyOf Try.f3) s fun e s' => (e = .normal ∨ e = .ret) ∧ ∃ g, Grow h g ∧ At s' 22 [(4, .bool true)] g := by
  refine Wp.seq (Wp.region hs (OpsTo.step rfl rfl rfl (oBox rfl rfl) <| OpsTo.step rfl rfl rfl (oBox rfl rfl) <| OpsTo.step rfl rfl rfl (oAssign rfl) (OpsTo.nil fun s hs => ?_)))
  have I : Inv (mach a0 a1 a2 a3 ea a5 ha sa a8 xa) (mach b0 b1 b2 b3 eb b5 hb sb b8 xb) h.nx (h.nx + 1) h ((h.new (.cells 28 (mach a0 a1 a2 a3 ea a5 ha sa a8 xa))).new (.cells 28 (mach b0 b1 b2 b3 eb b5 hb sb b8 xb))) := by
    refine ⟨?_, ?_, ?_, ?_, (Grow.new _ _).trans (Grow.new _ _), ?_⟩
    · rw [Hp.get_new, if_neg (by show h.nx + 1 ≠ h.nx; omega), Hp.get_new, if_pos rfl]
    · rw [Hp.get_new]; exact if_pos rfl
    · show h.nx < h.nx + 1 + 1; omega
    · show h.nx + 1 < h.nx + 1 + 1; omega
    · show h.lo ≤ h.nx + 1 + 1; omega
  have hs := hs.less (l' := [(3, .ptr (h.nx + 1) 0), (2, .ptr h.nx 0)]) (lessB_cons rfl <| lessB_cons rfl lessB_nil)
  generalize (h.new (.cells 28 (mach a0 a1 a2 a3 ea a5 ha sa a8 xa))).new (.cells 28 (mach b0 b1 b2 b3 eb b5 hb sb b8 xb)) = g at hs I
  generalize h.nx + 1 = r3 at hs I
  generalize h.nx = r2 at hs I
  repeat refine Wp.seq ?_
  cases c1 : Nat.blt 200 (evl ea).length <;> cases c2 : Nat.blt 200 (evl eb).length
  all_goals
    refine Wp.region hs ?_
    repeat
      first
        | refine OpsTo.step rfl rfl rfl (oField rfl (f34_4 _ _)) ?_
        | refine OpsTo.step rfl rfl rfl (oLoad rfl ((load_sc sc31 I.a).trans rfl)) ?_
        | refine OpsTo.step rfl rfl rfl (oLen rfl (len_ev _ _)) ?_
        | refine OpsTo.step rfl rfl rfl (oBin rfl rfl rfl (bgtr c1)) ?_
        | refine OpsTo.step rfl rfl rfl (oMove rfl) ?_
        | refine OpsTo.step rfl rfl rfl (oPick rfl rfl) ?_
        | refine OpsTo.gno rfl rfl rfl rfl rfl rfl ?_
        | refine OpsTo.gyes rfl rfl rfl rfl rfl rfl (oField rfl (f34_4 _ _)) ?_
        | refine OpsTo.gyes rfl rfl rfl rfl rfl rfl (oLoad rfl ((load_sc sc31 I.b).trans rfl)) ?_
        | refine OpsTo.gyes rfl rfl rfl rfl rfl rfl (oLen rfl (len_ev _ _)) ?_
        | refine OpsTo.gyes rfl rfl rfl rfl rfl rfl (oBin rfl rfl rfl (bgtr c2)) ?_
    refine OpsTo.nil fun s hs => ?_
    refine Wp.cond hs rfl ?_
    dsimp only [cond]
  rotate_left
  all_goals try exact Wp.seq (Wp.region hs (OpsTo.step rfl rfl rfl (oAssign rfl) (OpsTo.nil fun s hs => Wp.ret ⟨.inr rfl, g, I.grow, hs.less (lessB_cons rfl lessB_nil)⟩)))
  refine Wp.skip ?_
  have hs := hs.less (l' := [(3, .ptr r3 0), (2, .ptr r2 0)]) (lessB_cons rfl <| lessB_cons rfl lessB_nil)
  repeat refine Wp.seq ?_
  obtain ⟨n1, g1, k1, G1⟩ : ∃ n g', call Try.prog (C0 gl K) n 4 [.agg (mach a0 a1 a2 a3 ea a5 ha sa a8 xa), .agg (mach b0 b1 b2 b3 eb b5 hb sb b8 xb)] { g with lo := g.nx } = some (.val (.bool (keepsB (evl ea) (evl eb) sa sb ha hb xa xb)) g') ∧ Grow { g with lo := g.nx } g' := keeps_call hq ho (le200 c1) oa ob { g with lo := g.nx } (Nat.le_refl _)
  have R1 := G1.relo I.lo
  have I1 := I.to R1
  obtain ⟨n2, g2, k2, G2⟩ : ∃ n g', call Try.prog (C0 gl K) n 5 [.agg (mach a0 a1 a2 a3 ea a5 ha sa a8 xa), .agg (mach b0 b1 b2 b3 eb b5 hb sb b8 xb)] { ({ g1 with lo := g.lo } : Hp) with lo := g1.nx } = some (.val (.bool (keepsB (evl ea) (evl eb) sa sb ha hb xa xb)) g') ∧ Grow { ({ g1 with lo := g.lo } : Hp) with lo := g1.nx } g' := ref_call hq2 ho2 (le200 c1) _ (Nat.le_refl _)
  have R2 := Grow.relo (h := { g1 with lo := g.lo }) G2 I1.lo
  have I2 := I1.to R2
  have e1 : callF (C0 gl K) (exec Try.prog (C0 gl K) (n1 + n2)) 4 _ _ = _ := call_mono (by omega) k1
  have e2 : callF (C0 gl K) (exec Try.prog (C0 gl K) (n1 + n2)) 5 _ _ = _ := call_mono (by omega) k2
  clear k1 k2
  generalize keepsB (evl ea) (evl eb) sa sb ha hb xa xb = bb at e1 e2
  refine Wp.drawC (m := n1 + n2) (nx0 := g.nx) hs (by kernel_rfl) ?_
  refine DrTo.quiet (rd := [r2]) rfl rfl rfl rfl I.lo (fpLoad rfl) (fun r hr => by rw [List.mem_singleton.1 hr]; exact I.la) (oLoad rfl (ld28 I.a)) ?_
  refine DrTo.quiet (rd := [r3]) rfl rfl rfl rfl I.lo (fpLoad rfl) (fun r hr => by rw [List.mem_singleton.1 hr]; exact I.lb) (oLoad rfl (ld28 I.b)) ?_
  refine DrTo.call rfl rfl rfl I.lo (Nat.le_refl _) (fun _ => by unfold fpOf; rfl) G1 (oCall2 rfl rfl e1) ?_
  refine DrTo.quiet (rd := [r2]) rfl rfl rfl rfl I1.lo (fpLoad rfl) (fun r hr => by rw [List.mem_singleton.1 hr]; exact I.la) (oLoad rfl (ld28 I1.a)) ?_
  refine DrTo.quiet (rd := [r3]) rfl rfl rfl rfl I1.lo (fpLoad rfl) (fun r hr => by rw [List.mem_singleton.1 hr]; exact I.lb) (oLoad rfl (ld28 I1.b)) ?_
  refine DrTo.call rfl rfl rfl I1.lo R1.nx (fun _ => by unfold fpOf; rfl) G2 (oCall2 rfl rfl e2) ?_
  refine DrTo.quiet0 (rd := []) rfl rfl rfl rfl I2.lo (fun _ _ => by unfold fpOf; rfl) (oBin rfl rfl rfl (bEqlB bo4 bb bb)) ?_
  refine DrTo.quiet0 (rd := []) rfl rfl rfl rfl I2.lo (fun _ _ => by unfold fpOf; rfl) (oAssign rfl) ?_
  refine DrTo.nil fun s hs => ?_
  refine Wp.ret ⟨.inr rfl, _, I2.grow, hs.less (lessB_cons ?_ lessB_nil)⟩
  have hb : (bb == bb) = true := by cases bb <;> rfl
  rw [hb]; rfl
end Go.Proofs.Ytpcggmonkdhfpaa
