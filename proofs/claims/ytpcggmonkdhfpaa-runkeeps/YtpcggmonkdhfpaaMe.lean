/- THE ABSTRACT MACHINE AND WHY IT IS RIGHT, part e. Nothing is assumed. -/
import Derived.Test.YtpcggmonkdhfpaaMd
/- Regions that draw, with calls that turn nothing; structs and bools held against each other. -/
namespace Go.Ax
section
variable {P : Program} {C : Ctx} {ih : Code → St → Res} {n nx0 : Nat} {all rest : List Oper} {ms : List Nat} {l : Env} {h h1 : Hp} {o : Oper} {v : AV} {d : Nat} {R : St → Prop} {Q : Ex → St → Prop} {s : St}
def Calm (nx0 : Nat) (f : FP) : Prop := f.wr = some [] ∧ (f.nl = f.nh ∨ nx0 ≤ f.nl)
def DrTo (P : Program) (C : Ctx) (ih : Code → St → Res) (n nx0 : Nat) (all : List Oper) (ms : List Nat) (ops : List Oper) (l : Env) (h : Hp) (R : St → Prop) : Prop :=
  ∀ s i fps, At s n l h → (∀ f ∈ fps, Calm nx0 f) → ∃ s1, runDraw P C ih all ms ops i fps s = some (.normal, s1) ∧ R s1
theorem DrTo.nil (k : ∀ s, At s n l h → R s) : DrTo P C ih n nx0 all ms [] l h R := fun s _ _ hs _ => ⟨s, rfl, k s hs⟩
theorem calm_clash {a b : FP} (ha : Calm nx0 a) (hb : b.wr = some []) (hr : ∀ rd, b.rd = some rd → ∀ r ∈ rd, r < nx0) : FP.clash a b = false := by
  unfold FP.clash
  rw [ha.1, hb]
  cases hbr : b.rd with
  | none => rfl
  | some rd =>
    dsimp only
    have h1 : rd.any (inR a.nl a.nh) = false := by
      rw [List.any_eq_false]
      intro x hx
      have hlt := hr rd hbr x hx
      unfold inR
      cases h2 : Nat.ble a.nl x with
      | false => simp
      | true =>
        have h2 := Nat.le_of_ble_eq_true h2
        cases h3 : Nat.blt x a.nh with
        | false => simp
        | true =>
          have h3 := Nat.le_of_ble_eq_true h3
          rcases ha.2 with h4 | h4 <;> omega
    rw [h1]; simp [overlap]
theorem calm_free {b : FP} (hb : b.wr = some []) (hr : ∀ rd, b.rd = some rd → ∀ r ∈ rd, r < nx0) : ∀ (l : List FP), (∀ a ∈ l, Calm nx0 a) → clashFree ms b l = true
  | [], _ => rfl
  | a :: l, h => by
    unfold clashFree
    rw [calm_clash (h a List.mem_cons_self) hb hr]
    exact calm_free hb hr l fun x hx => h x (List.mem_cons_of_mem _ hx)
theorem calm_next {b : FP} {fps : List FP} (hc : Calm nx0 b) (hr : ∀ rd, b.rd = some rd → ∀ r ∈ rd, r < nx0) (hf : ∀ f ∈ fps, Calm nx0 f) : ∃ fps', fpNext ms b fps = some fps' ∧ ∀ f ∈ fps', Calm nx0 f := by
  have more : ∀ f ∈ b :: fps, Calm nx0 f := fun f hm => (List.mem_cons.1 hm).elim (fun e => by subst e; exact hc) (hf f)
  unfold fpNext
  split
  · cases Nat.blt b.nl b.nh with
    | true => exact ⟨_, rfl, more⟩
    | false => exact ⟨_, rfl, hf⟩
  · rw [calm_free hc.1 hr fps hf]
    exact ⟨_, rfl, more⟩
theorem DrTo.quiet {rd : List Nat} (hq : quietOp o = true) (hg : o.guard = none) (hd : o.dst = some d) (hb : Nat.blt d n = true) (hlo : h.lo ≤ h.nx) (hfp : ∀ s, At s n l h → fpOf C s o = some (rd, [])) (hrd : ∀ r ∈ rd, r < nx0)
    (ho : ∀ s, At s n l h → opA P C ih s o = some (.val v h)) (k : DrTo P C ih n nx0 all ms rest ((d, v) :: l) h R) : DrTo P C ih n nx0 all ms (o :: rest) l h R := fun s i fps hs hf => by
  obtain ⟨s1, h2, h3⟩ := hs.put hb v h
  have e0 := ho s hs
  have hfp' := hfp s hs
  obtain ⟨g', e1, _, _⟩ := opA_loc (s' := { s with h := { s.h with lo := s.h.nx } }) hfp' e0 (fun x _ => by cases x <;> rfl) (by show s.h.nx = s.h.nx; rfl) (fun _ _ => rfl)
  have e2 := quiet_heap hq e1
  subst e2
  obtain ⟨fps', h4, h5⟩ := calm_next (nx0 := nx0) (ms := ms) (b := { i := i, rd := some rd, wr := some [], nl := s.h.nx, nh := s.h.nx }) ⟨rfl, .inl rfl⟩ (fun rd' hr r hm => by cases hr; exact hrd r hm) hf
  obtain ⟨s2, h6, h7⟩ := k s1 (i + 1) fps' h3 h5
  refine ⟨s2, ?_, h7⟩
  have hw : wantedA all s o = some true := by unfold wantedA; rw [hg]
  have he : fpAt C s o i { s.h with lo := s.h.nx } = { i := i, rd := some rd, wr := some [], nl := s.h.nx, nh := s.h.nx } := by unfold fpAt; rw [hfp']
  have hss : ({ nx := s.h.nx, m := s.h.m, lo := bif s.h.lo.ble s.h.nx then s.h.lo else s.h.nx } : Hp) = h := by
    rw [hs.h, Nat.ble_eq_true_of_le hlo]; rfl
  unfold runDraw
  rw [hw]
  dsimp only
  rw [e1]
  dsimp only
  rw [he, h4]
  dsimp only
  rw [hss, hd, h2]
  exact h6
theorem DrTo.quiet0 {rd : List Nat} (hq : quietOp o = true) (hg : o.guard = none) (hd : o.dst = some d) (hb : Nat.blt d n = true) (hlo : h.lo ≤ h.nx) (hfp : ∀ s, At s n l h → fpOf C s o = some ([], []))
    (ho : ∀ s, At s n l h → opA P C ih s o = some (.val v h)) (k : DrTo P C ih n nx0 all ms rest ((d, v) :: l) h R) : DrTo P C ih n nx0 all ms (o :: rest) l h R :=
  DrTo.quiet hq hg hd hb hlo hfp (fun r hr => by cases hr) ho k
/-- A call whose steps turn nothing that was there. -/
theorem DrTo.call (hg : o.guard = none) (hd : o.dst = some d) (hb : Nat.blt d n = true) (hlo : h.lo ≤ h.nx) (hn0 : nx0 ≤ h.nx) (hfp : ∀ s, fpOf C s o = none) {g : Hp} (hG : Grow { h with lo := h.nx } g)
    (ho : ∀ s, At s n l { h with lo := h.nx } → opA P C ih s o = some (.val v g)) (k : DrTo P C ih n nx0 all ms rest ((d, v) :: l) { g with lo := h.lo } R) : DrTo P C ih n nx0 all ms (o :: rest) l h R := fun s i fps hs hf => by
  obtain ⟨s1, h2, h3⟩ := hs.put hb v { g with lo := h.lo }
  have hs' : At { s with h := { s.h with lo := s.h.nx } } n l { h with lo := h.nx } := ⟨hs.n, by rw [hs.h], hs.ds, hs.rd, hs.tm⟩
  have e1 := ho _ hs'
  have hlo2 : h.nx ≤ g.lo := by have := hG.lo; simpa using this
  have hnx : h.nx ≤ g.nx := hG.nx
  have he : fpAt C s o i g = { i := i, rd := none, wr := some [], nl := h.nx, nh := g.nx } := by
    unfold fpAt
    rw [hfp s]
    dsimp only
    rw [hs.h, Nat.ble_eq_true_of_le hlo2]; rfl
  obtain ⟨fps', h4, h5⟩ := calm_next (nx0 := nx0) (ms := ms) (b := { i := i, rd := none, wr := some [], nl := h.nx, nh := g.nx }) ⟨rfl, .inr hn0⟩ (fun rd' hr r hm => by cases hr) hf
  obtain ⟨s2, h6, h7⟩ := k s1 (i + 1) fps' h3 h5
  refine ⟨s2, ?_, h7⟩
  have hw : wantedA all s o = some true := by unfold wantedA; rw [hg]
  have hss : ({ nx := g.nx, m := g.m, lo := bif s.h.lo.ble g.lo then s.h.lo else g.lo } : Hp) = { g with lo := h.lo } := by
    rw [hs.h, Nat.ble_eq_true_of_le (show h.lo ≤ g.lo by omega)]; rfl
  unfold runDraw
  rw [hw]
  dsimp only
  rw [e1]
  dsimp only
  rw [he, h4]
  dsimp only
  rw [hss, hd, h2]
  exact h6
theorem Wp.drawC {i m : Nat} {ops : Array Oper} (hs : At s n l h) (hok : drawOk ops.toList ops.toList (masks [] ops.toList) 0 [] = true) (k : DrTo P C (exec P C m) n nx0 ops.toList (masks [] ops.toList) ops.toList l h fun s1 => Q .normal s1) : Wp P C (.region i ops true) s Q := by
  obtain ⟨s1, h1, h2⟩ := k s 0 [] hs (fun f hf => by cases hf)
  refine ⟨_, s1, Runs.drawC (n := m) ?_, h2⟩
  unfold drawF
  rw [hok]
  exact h1
theorem Grow.relo {h g : Hp} (k : Grow { h with lo := h.nx } g) (hlo : h.lo ≤ h.nx) : Grow h { g with lo := h.lo } :=
  ⟨k.nx, k.get, Nat.min_le_left _ _, Nat.le_refl _⟩

/-! ### Structs of two numbers; bools -/
def isSt2 (C : Ctx) (t : TypeId) (j k : IntKind) : Bool := match C.ti t with
  | some x => (match x.desc with
    | .struct fs => (match fs.toList with
      | [f, g] => (match C.ti f.type, C.ti g.type with
        | some y, some z => (match y.desc, z.desc with
          | .int p, .int q => kindEq p j && (kindEq q k && (kindEq j j && (kindEq k k && (Nat.beq f.offset 0 && (Nat.beq g.offset 1 && (!y.isAgg && !z.isAgg))))))
          | _, _ => false)
        | _, _ => false)
      | _ => false)
    | _ => false)
  | _ => false
theorem eqA_st2 {t : TypeId} {j k : IntKind} (ht : isSt2 C t j k = true) (he : C.eqT t = true) {a b c d : Int} (m : Nat) : eqA C (m + 2) t (.agg [.int j a, .int k b]) (.agg [.int j c, .int k d]) = some (eqI a c && eqI b d) := by
  unfold isSt2 at ht
  split at ht
  case h_2 => cases ht
  rename_i x hx
  split at ht
  case h_2 => cases ht
  rename_i fs hfs
  split at ht
  case h_2 => cases ht
  rename_i f g hfg
  split at ht
  case h_2 => cases ht
  rename_i y z hy hz
  split at ht
  case h_2 => cases ht
  rename_i p q hp hq
  obtain ⟨_, ht⟩ := and_bool ht
  obtain ⟨_, ht⟩ := and_bool ht
  obtain ⟨kj, ht⟩ := and_bool ht
  obtain ⟨kk, ht⟩ := and_bool ht
  obtain ⟨o1, ht⟩ := and_bool ht
  obtain ⟨o2, ht⟩ := and_bool ht
  obtain ⟨ag1, ag2⟩ := and_bool ht
  have o1 := Nat.eq_of_beq_eq_true o1
  have o2 := Nat.eq_of_beq_eq_true o2
  have ag1 : y.isAgg = false := by simpa using ag1
  have ag2 : z.isAgg = false := by simpa using ag2
  have one : ∀ u v : Int, eqA C (m + 1) f.type (.int j u) (.int j v) = some (eqI u v) := fun u v => by
    show eqStep C (eqA C m) f.type (.int j u) (.int j v) = _
    unfold eqStep
    rw [hy]
    simp only [hp, kj, cond_true]
  have two : ∀ u v : Int, eqA C (m + 1) g.type (.int k u) (.int k v) = some (eqI u v) := fun u v => by
    show eqStep C (eqA C m) g.type (.int k u) (.int k v) = _
    unfold eqStep
    rw [hz]
    simp only [hq, kk, cond_true]
  show eqStep C (eqA C (m + 1)) t _ _ = _
  unfold eqStep
  rw [hx]
  simp only [hfs, he, cond_true, hfg]
  unfold eqFields
  simp only [hy, partOf, ag1, o1]
  show (match eqA C (m + 1) f.type (.int j a) (.int j c) with | some true => eqFields C (eqA C (m + 1)) _ _ [g] | r => r) = _
  rw [one]
  cases eqI a c with
  | false => rfl
  | true =>
    dsimp only
    unfold eqFields
    simp only [hz, partOf, ag2, o2]
    show (match eqA C (m + 1) g.type (.int k b) (.int k d) with | some true => eqFields C (eqA C (m + 1)) _ _ [] | r => r) = _
    rw [two]
    cases eqI b d <;> rfl
def isBo (C : Ctx) (t : TypeId) : Bool := match C.ti t with
  | some x => (match x.desc with | .bool => true | _ => false)
  | _ => false
theorem bEqlB {t : TypeId} (ht : isBo C t = true) (a b : Bool) : binOpA C .eql t (.bool a) (.bool b) = some (.bool (a == b)) := by
  unfold isBo at ht
  split at ht
  case h_2 => cases ht
  rename_i x hx
  split at ht
  case h_2 => cases ht
  rename_i hd
  show (match eqStep C (eqA C 99) t (.bool a) (.bool b) with | some b => some (AV.bool b) | none => none) = _
  unfold eqStep
  rw [hx]
  simp only [hd]
end
end Go.Ax
