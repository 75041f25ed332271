/- THE ABSTRACT MACHINE AND WHY IT IS RIGHT, part n. Nothing is assumed. -/
import Derived.Test.YtnpknclpnogagaaGreatDoorMc
import Derived.Maps.RangeRun
set_option linter.unusedSimpArgs false
set_option linter.unusedVariables false
/- Memories told anew: what nobody comes to is left out, and new blocks get new names, in an order of their own. -/
noncomputable section
namespace Go.Ax
/-! ### Names -/
def namesV : AV → List Nat
  | .ptr r _ => [r]
  | .sl r _ _ _ _ _ => [r]
  | .map r => [r]
  | .fn (.yield l) _ _ => [l]
  | .fn _ a c => namesVs a ++ namesVs c
  | .iface _ v => namesV v
  | .agg l => namesVs l
  | .tup l => namesVs l
  | _ => []
where namesVs : List AV → List Nat
  | [] => []
  | v :: l => namesV v ++ namesVs l
def namesO : AObj → List Nat
  | .cells _ cs => namesV.namesVs cs
  | .map es _ => (es.map fun e => namesV e.1 ++ namesV e.2.1).flatten
  | .miter q _ _ _ => [q]
  | _ => []
/-- The place of a name in a list, from a number on. -/
def idxN (r : Nat) : List Nat → Nat → Option Nat
  | [], _ => none
  | a :: l, k => bif Nat.beq a r then some k else idxN r l (Nat.succ k)
def renN (b : Nat) (L : List Nat) (r : Nat) : Option Nat := bif Nat.blt r b then some r else idxN r L b
mutual
def renV (b : Nat) (L : List Nat) : AV → Option AV
  | .ptr r o => (match renN b L r with | some q => some (.ptr q o) | none => none)
  | .sl r o l c e x => (match renN b L r with | some q => some (.sl q o l c e x) | none => none)
  | .map r => (match renN b L r with | some q => some (.map q) | none => none)
  | .isl xs => bif noRefss xs then some (.isl xs) else none
  | .iptr xs i o => bif noRefss xs then some (.iptr xs i o) else none
  | .fn (.func f) a c => (match renVs b L a, renVs b L c with | some a, some c => some (.fn (.func f) a c) | _, _ => none)
  | .fn _ _ _ => none
  | .iface t v => (match renV b L v with | some u => some (.iface t u) | none => none)
  | .agg l => (match renVs b L l with | some k => some (.agg k) | none => none)
  | .tup l => (match renVs b L l with | some k => some (.tup k) | none => none)
  | x => some x
def renVs (b : Nat) (L : List Nat) : List AV → Option (List AV)
  | [] => some []
  | v :: l => (match renV b L v, renVs b L l with | some u, some k => some (u :: k) | _, _ => none)
end
def renEs (b : Nat) (L : List Nat) : List (AV × AV × Nat) → Option (List (AV × AV × Nat))
  | [] => some []
  | (k, v, n) :: l => (match renV b L k, renV b L v, renEs b L l with | some k, some v, some l => some ((k, v, n) :: l) | _, _, _ => none)
def renO (b : Nat) (L : List Nat) : AObj → Option AObj
  | .cells e cs => (match renVs b L cs with | some k => some (.cells e k) | none => none)
  | .map es c => (match renEs b L es with | some k => some (.map k c) | none => none)
  | .siter s p => some (.siter s p)
  | .miter q s e l => (match renN b L q with | some q => some (.miter q s e l) | none => none)
  | .defd d => some (.defd d)
  | _ => none
/-- The new names that some come to, in the order in which they're met. -/
def seekN (h : Hp) (b : Nat) : Nat → List Nat → List Nat → List Nat
  | 0, _, seen => seen
  | _, [], seen => seen
  | k + 1, r :: l, seen => bif Nat.blt r b || memF r seen then seekN h b k l seen else
    (match h.get r with
     | some o => seekN h b k (l ++ namesO o) (seen ++ [r])
     | none => seekN h b k l seen)
/-- Old objects, told anew. -/
def oldT (h : Hp) (b : Nat) (L : List Nat) : Nat → Tr AObj → Option (Tr AObj)
  | 0, t => some t
  | k + 1, t => match h.get k with
    | none => oldT h b L k t
    | some o => (match renO b L o with | some q => oldT h b L k (t.set k q) | none => oldT h b L k t)
/-- New ones. -/
def newT (h : Hp) (b : Nat) (L : List Nat) : List Nat → Nat → Tr AObj → Option (Tr AObj)
  | [], _, t => some t
  | r :: l, k, t => match h.get r with
    | some o => (match renO b L o with | some q => newT h b L l (Nat.succ k) (t.set k q) | none => none)
    | none => none
def rootsO (h : Hp) : Nat → List Nat
  | 0 => []
  | k + 1 => rootsO h k ++ (match h.get k with | some o => namesO o | none => [])
/-- A call's answer and memory, told anew; b: the number of names ahead of the call. -/
def anew (b : Nat) (v : AV) (h : Hp) : Option (AV × Hp) :=
  let L := seekN h b 4000 (namesV v ++ rootsO h b) []
  bif nodupF L && (L.all fun r => Nat.ble b r) then
    (match renV b L v, oldT h b L b .e with
    | some u, some t => (match newT h b L L b t with
      | some t2 => some (u, { nx := Nat.add b L.length, m := t2, lo := 0 })
      | none => none)
    | _, _ => none)
  else none
where nodupF : List Nat → Bool
  | [] => true
  | a :: l => !memF a l && nodupF l

theorem memF_iff {n : Nat} : ∀ {l : List Nat}, memF n l = true ↔ n ∈ l
  | [] => by simp [memF]
  | a :: l => by
    have : Nat.beq n a = true ↔ n = a := ⟨Nat.eq_of_beq_eq_true, fun e => by rw [e]; exact Nat.beq_refl a⟩
    simp [memF, memF_iff (l := l), this]
theorem nodupF_iff : ∀ {l : List Nat}, anew.nodupF l = true → l.Nodup
  | [], _ => List.nodup_nil
  | a :: l, h => by
    unfold anew.nodupF at h
    obtain ⟨h1, h2⟩ := and_bool h
    refine List.nodup_cons.2 ⟨fun hm => ?_, nodupF_iff h2⟩
    rw [memF_iff.2 hm] at h1; cases h1
theorem idxN_some : ∀ {L : List Nat} {r k q : Nat}, idxN r L k = some q → ∃ i, q = k + i ∧ L[i]? = some r
  | [], _, _, _, h => by cases h
  | a :: l, r, k, q, h => by
    unfold idxN at h
    cases hb : Nat.beq a r with
    | true => rw [hb] at h; cases h; exact ⟨0, rfl, by rw [Nat.eq_of_beq_eq_true hb]; rfl⟩
    | false =>
      rw [hb] at h
      obtain ⟨i, h1, h2⟩ := idxN_some h
      exact ⟨i + 1, by omega, h2⟩
/-- The map of names, told anew. -/
noncomputable def Loc.ren (m : Loc) (b : Nat) (L : List Nat) : Loc := ⟨fun r => if r < b then m r else match L[r - b]? with | some q => m q | none => none, m.fz⟩
theorem ren_name {m : Loc} {b : Nat} {L : List Nat} {r q : Nat} (h : renN b L r = some q) : m.ren b L q = m r := by
  unfold renN at h
  cases hb : Nat.blt r b with
  | true =>
    rw [hb] at h; cases h
    exact if_pos (Nat.le_of_ble_eq_true hb)
  | false =>
    rw [hb] at h
    obtain ⟨i, rfl, hi⟩ := idxN_some h
    show (if b + i < b then m (b + i) else match L[b + i - b]? with | some q => m q | none => none) = m r
    rw [if_neg (by omega), show b + i - b = i by omega, hi]

section
variable {P : Program} {F : Nat → Option Obj} {m : Loc} {b : Nat} {L : List Nat}
theorem renVs_at : ∀ {l k : List AV}, renVs b L l = some k → k.length = l.length ∧ ∀ (i : Nat) (y : AV), k[i]? = some y → ∃ x, l[i]? = some x ∧ renV b L x = some y
  | [], k, h => by unfold renVs at h; cases h; exact ⟨rfl, fun i y h => by simp at h⟩
  | v :: l, k, h => by
    unfold renVs at h
    split at h
    case h_2 => cases h
    rename_i u k' hu hk
    cases h
    obtain ⟨h1, h2⟩ := renVs_at hk
    refine ⟨by simp [h1], fun i y hy => ?_⟩
    cases i with
    | zero => simp at hy; subst hy; exact ⟨v, rfl, hu⟩
    | succ i => exact h2 i y (by simpa using hy)
theorem renV_rel {x : AV} {v : Value} (h : VRel P F m x v) : ∀ y, renV b L x = some y → VRel P F (m.ren b L) y v := by
  have unr : ∀ {x : AV} {v : Value}, VRel P F ⟨fun _ => none, m.fz⟩ x v → VRel P F (m.ren b L) x v := fun h => VRel.mono (m := ⟨fun _ => none, m.fz⟩) (m' := m.ren b L) ⟨fun _ _ h => (by cases h), fun _ _ h => h⟩ h
  have lst : ∀ {l k : List AV} {a : Array Value}, l.length = a.size → (∀ (i : Nat) (x : AV) (y : Value), l[i]? = some x → a[i]? = some y → ∀ z, renV b L x = some z → VRel P F (m.ren b L) z y) → renVs b L l = some k →
      k.length = a.size ∧ ∀ (i : Nat) (x : AV) (y : Value), k[i]? = some x → a[i]? = some y → VRel P F (m.ren b L) x y := fun hl ih hk => by
    obtain ⟨h1, h2⟩ := renVs_at hk
    refine ⟨h1.trans hl, fun i x y hx hy => ?_⟩
    obtain ⟨z, hz, hr⟩ := h2 i x hx
    exact ih i z y hz hy x hr
  induction h with
  | undef v => intro y h; simp only [renV] at h; cases h; exact .undef v
  | bool c => intro y h; simp only [renV] at h; cases h; exact .bool c
  | int k n => intro y h; simp only [renV] at h; cases h; exact .int k n
  | str s => intro y h; simp only [renV] at h; cases h; exact .str s
  | nilptr => intro y h; simp only [renV] at h; cases h; exact .nilptr
  | ptr hm => intro y h; simp only [renV] at h; split at h; · rename_i q hq; cases h; exact .ptr ((ren_name hq).trans hm)
              · cases h
  | nilsl => intro y h; simp only [renV] at h; cases h; exact .nilsl
  | sl hm hl hc hx hz => intro y h; simp only [renV] at h; split at h; · rename_i q hq; cases h; exact .sl ((ren_name hq).trans hm) hl hc hx hz
                         · cases h
  | isl0 a cap => intro y h; simp only [renV] at h; obtain ⟨_, h⟩ := cond_some' h; cases h; exact .isl0 a cap
  | isl es f hF hl hes hf hc _ =>
    intro y h; simp only [renV] at h
    obtain ⟨hn, h⟩ := cond_some' h; cases h
    exact unr ((VRel.isl es f hF hl hes hf hc).unref (fun _ _ h => h) (by simp only [noRef]; exact hn))
  | iptr es f hF hi hes hf hc _ =>
    intro y h; simp only [renV] at h
    obtain ⟨hn, h⟩ := cond_some' h; cases h
    exact unr ((VRel.iptr es f hF hi hes hf hc).unref (fun _ _ h => h) (by simp only [noRef]; exact hn))
  | nilmap => intro y h; simp only [renV] at h; cases h; exact .nilmap
  | map hm => intro y h; simp only [renV] at h; split at h; · rename_i q hq; cases h; exact .map ((ren_name hq).trans hm)
              · cases h
  | fn hf hl _ hk _ ih1 ih2 =>
    intro y h
    cases hf with
    | func f =>
      simp only [renV] at h
      split at h
      · rename_i a c ha hc
        cases h
        obtain ⟨g1, g2⟩ := lst hl ih1 ha
        obtain ⟨g3, g4⟩ := lst hk ih2 hc
        exact .fn (.func f) g1 g2 g3 g4
      · cases h
    | yield hy => simp only [renV] at h; cases h
  | nilfn => intro y h; simp only [renV] at h; cases h; exact .nilfn
  | iface t _ ih => intro y h; simp only [renV] at h; split at h; · rename_i u hu; cases h; exact .iface t (ih _ hu)
                    · cases h
  | nilif => intro y h; simp only [renV] at h; cases h; exact .nilif
  | agg hl _ ih => intro y h; simp only [renV] at h; split at h; · rename_i k hk; cases h; obtain ⟨g1, g2⟩ := lst hl ih hk; exact .agg g1 g2
                   · cases h
  | tup hl _ ih => intro y h; simp only [renV] at h; split at h; · rename_i k hk; cases h; obtain ⟨g1, g2⟩ := lst hl ih hk; exact .tup g1 g2
                   · cases h
  | typ t => intro y h; simp only [renV] at h; cases h; exact .typ t
  | raw hv => intro y h; simp only [renV] at h; cases h; exact .raw hv
theorem renEs_at : ∀ {es ks : List (AV × AV × Nat)}, renEs b L es = some ks → ks.length = es.length ∧ ∀ (i : Nat) (y : AV × AV × Nat), ks[i]? = some y → ∃ x, es[i]? = some x ∧ renV b L x.1 = some y.1 ∧ renV b L x.2.1 = some y.2.1 ∧ x.2.2 = y.2.2
  | [], ks, h => by unfold renEs at h; cases h; exact ⟨rfl, fun i y h => by simp at h⟩
  | (k, v, n) :: es, ks, h => by
    unfold renEs at h
    split at h
    case h_2 => cases h
    rename_i k' v' l' h1 h2 h3
    cases h
    obtain ⟨g1, g2⟩ := renEs_at h3
    refine ⟨by simp [g1], fun i y hy => ?_⟩
    cases i with
    | zero => simp at hy; subst hy; exact ⟨_, rfl, h1, h2, rfl⟩
    | succ i => exact g2 i y (by simpa using hy)
theorem renO_rel {z : Nat} {o q : AObj} {ob : Option Obj} (h : ORel P F m z o ob) (hr : renO b L o = some q) : ORel P F (m.ren b L) z q ob ∧ q.live = true ∧ o.live = true := by
  cases o with
  | cells e cs =>
    simp only [renO] at hr
    split at hr
    case h_2 => cases hr
    rename_i k hk
    cases hr
    obtain ⟨arr, h1, h2, h3, h4⟩ := h
    obtain ⟨g1, g2⟩ := renVs_at hk
    refine ⟨⟨arr, h1, h2, by omega, fun i x y hx hy => ?_⟩, rfl, rfl⟩
    obtain ⟨x0, hx0, hr0⟩ := g2 i x hx
    exact renV_rel (h4 i x0 y hx0 hy) x hr0
  | map es c =>
    simp only [renO] at hr
    split at hr
    case h_2 => cases hr
    rename_i k hk
    cases hr
    obtain ⟨ces, h1, h2, h3⟩ := h
    obtain ⟨g1, g2⟩ := renEs_at hk
    refine ⟨⟨ces, h1, by omega, fun i x y hx hy => ?_⟩, rfl, rfl⟩
    obtain ⟨x0, hx0, r1, r2, r3⟩ := g2 i x hx
    have he := h3 i x0 y hx0 hy
    exact ⟨renV_rel he.key _ r1, renV_rel he.val _ r2, by rw [← r3]; exact he.born⟩
  | siter s p => simp only [renO] at hr; cases hr; exact ⟨h, rfl, rfl⟩
  | miter q s e l =>
    simp only [renO] at hr
    split at hr
    case h_2 => cases hr
    rename_i q' hq
    cases hr
    obtain ⟨b', y, h1, h2⟩ := h
    exact ⟨⟨b', y, (ren_name hq).trans h1, h2⟩, rfl, rfl⟩
  | loop => simp only [renO] at hr; cases hr
  | defd d => simp only [renO] at hr; cases hr; exact ⟨h, rfl, rfl⟩
  | dead => simp only [renO] at hr; cases hr
theorem oldT_get {h : Hp} : ∀ (k : Nat) (t t' : Tr AObj), oldT h b L k t = some t' → ∀ r o, t'.get r = some o → t.get r = some o ∨ (r < k ∧ ∃ q, h.get r = some q ∧ renO b L q = some o)
  | 0, t, t', e, r, o, hg => by cases e; exact .inl hg
  | k + 1, t, t', e, r, o, hg => by
    unfold oldT at e
    split at e
    · rcases oldT_get k t t' e r o hg with h1 | ⟨h1, h2⟩
      · exact .inl h1
      · exact .inr ⟨by omega, h2⟩
    · rename_i o0 ho0
      split at e
      case h_2 =>
        rcases oldT_get k t t' e r o hg with h1 | ⟨h1, h2⟩
        · exact .inl h1
        · exact .inr ⟨by omega, h2⟩
      rename_i q hq
      rcases oldT_get k _ t' e r o hg with h1 | ⟨h1, h2⟩
      · rw [Tr.get_set] at h1
        split at h1
        · rename_i he; cases h1; subst he; exact .inr ⟨by omega, o0, ho0, hq⟩
        · exact .inl h1
      · exact .inr ⟨by omega, h2⟩
theorem newT_get {h : Hp} : ∀ (l : List Nat) (k : Nat) (t t' : Tr AObj), newT h b L l k t = some t' → ∀ r o, t'.get r = some o → t.get r = some o ∨ (∃ i q s, r = k + i ∧ l[i]? = some s ∧ h.get s = some q ∧ renO b L q = some o)
  | [], k, t, t', e, r, o, hg => by cases e; exact .inl hg
  | s :: l, k, t, t', e, r, o, hg => by
    unfold newT at e
    split at e
    case h_2 => cases e
    rename_i o0 ho0
    split at e
    case h_2 => cases e
    rename_i q hq
    rcases newT_get l (k + 1) _ t' e r o hg with h1 | ⟨i, q', s', h1, h2, h3, h4⟩
    · rw [Tr.get_set] at h1
      split at h1
      · rename_i he; cases h1; subst he; exact .inr ⟨0, o0, s, rfl, rfl, ho0, hq⟩
      · exact .inl h1
    · exact .inr ⟨i + 1, q', s', by omega, h2, h3, h4⟩

/-- What was so of a call's answer and memory is so of them told anew. -/
theorem anew_rel {h h' h2 : Hp} {w w' : World} {m' : Loc} {v u : AV} {cv : Value} (hs : Step P F m h h' w w' m') (hfree : ∀ r, h.nx ≤ r → m r = none) (hv : VRel P F m' v cv) (hc : anew h.nx v h' = some (u, h2)) :
    HpLe h h2 ∧ ∃ m2, Step P F m h h2 w w' m2 ∧ VRel P F m2 u cv := by
  unfold anew at hc
  generalize seekN h' h.nx 4000 (namesV v ++ rootsO h' h.nx) [] = L at hc
  obtain ⟨hL, hc1⟩ := cond_some' hc
  obtain ⟨hL1, hL2⟩ := and_bool hL
  have hnd := nodupF_iff hL1
  have hge : ∀ r ∈ L, h.nx ≤ r := fun r hr => Nat.le_of_ble_eq_true (List.all_eq_true.1 hL2 r hr)
  clear hc
  split at hc1
  case h_2 => cases hc1
  rename_i u' t hu ht
  split at hc1
  case h_2 => cases hc1
  rename_i t2 ht2
  cases hc1
  have key : ∀ r o, ({ nx := Nat.add h.nx L.length, m := t2, lo := 0 } : Hp).get r = some o →
      (r < h.nx ∧ ∃ q, h'.get r = some q ∧ renO h.nx L q = some o) ∨ (∃ i q s, r = h.nx + i ∧ L[i]? = some s ∧ h'.get s = some q ∧ renO h.nx L q = some o) := fun r o hg => by
    rcases newT_get _ _ _ _ ht2 r o hg with h1 | h1
    · rcases oldT_get _ _ _ ht r o h1 with h3 | h3
      · rw [Tr.get_e] at h3; cases h3
      · exact .inl h3
    · exact .inr h1
  have at1 : ∀ {r}, r < h.nx → m'.ren h.nx L r = m' r := fun {r} hr => if_pos hr
  have at2 : ∀ {i s}, L[i]? = some s → m'.ren h.nx L (h.nx + i) = m' s := fun {i s} hi => by
    show (if h.nx + i < h.nx then m' (h.nx + i) else match L[h.nx + i - h.nx]? with | some q => m' q | none => none) = m' s
    rw [if_neg (by omega), show h.nx + i - h.nx = i by omega, hi]
  -- each name told anew is one that was
  have from' : ∀ r o, ({ nx := Nat.add h.nx L.length, m := t2, lo := 0 } : Hp).get r = some o → ∃ s q, h'.get s = some q ∧ renO h.nx L q = some o ∧ m'.ren h.nx L r = m' s ∧ ((r < h.nx ∧ s = r) ∨ ∃ i, r = h.nx + i ∧ L[i]? = some s) := fun r o hg => by
    rcases key r o hg with ⟨h1, q, h2, h3⟩ | ⟨i, q, s, h1, h2, h3, h4⟩
    · exact ⟨r, q, h2, h3, at1 h1, .inl ⟨h1, rfl⟩⟩
    · subst h1; exact ⟨s, q, h3, h4, at2 h2, .inr ⟨i, rfl, h2⟩⟩
  have livO : ∀ {q o : AObj}, renO h.nx L q = some o → q.live = true := fun {q o} h => by cases q <;> first | rfl | (unfold renO at h; cases h)
  have same : ∀ {r r' s s'}, ((r < h.nx ∧ s = r) ∨ ∃ i, r = h.nx + i ∧ L[i]? = some s) → ((r' < h.nx ∧ s' = r') ∨ ∃ i, r' = h.nx + i ∧ L[i]? = some s') → s = s' → r = r' := by
    rintro r r' s s' (⟨h1, rfl⟩ | ⟨i, rfl, h1⟩) (⟨h2, rfl⟩ | ⟨j, rfl, h2⟩) he
    · exact he
    · have := hge s' (List.mem_of_getElem? h2); omega
    · have := hge s (List.mem_of_getElem? h1); omega
    · subst he
      have h3 := (List.getElem?_eq_some_iff.1 h1)
      have h4 := (List.getElem?_eq_some_iff.1 h2)
      have := (List.getElem_inj hnd (h₀ := h3.1) (h₁ := h4.1)).1 (h3.2.trans h4.2.symm)
      omega
  refine ⟨⟨by show h.nx ≤ Nat.add h.nx L.length; exact Nat.le_add_right _ _, Nat.zero_le _, fun r _ h2 => absurd h2 (Nat.not_lt_zero _), fun _ r hr => ?_⟩, m'.ren h.nx L,
    ⟨⟨fun r c hm => ?_, fun b o hb => hs.le.frz b o hb⟩, fun r c hc hm => ?_, ⟨fun r o b z hg hm => ?_, fun r s o q b y z hg hl hg' hl' hm hm' => ?_, fun r o b z hg hl hm => ?_, fun b o hb => hs.rel.frz b o hb, fun r hr => ?_⟩, hs.same, hs.size, hs.old, Nat.le_add_right _ _, fun r o' c hg hl hm => ?_, fun r b z hm hn hl => ?_, hs.fnew⟩, renV_rel hv _ hu⟩
  · cases hg : ({ nx := Nat.add h.nx L.length, m := t2, lo := 0 } : Hp).get r with
    | none => rfl
    | some o =>
      have hr : h.nx + L.length ≤ r := hr
      rcases key r o hg with ⟨h1, _⟩ | ⟨i, q, s, h1, h2, _⟩
      · omega
      · have := (List.getElem?_eq_some_iff.1 h2).1; omega
  · have hlt : r < h.nx := by
      rcases Nat.lt_or_ge r h.nx with h1 | h1
      · exact h1
      · rw [hfree r h1] at hm; cases hm
    exact (at1 hlt).trans (hs.le r c hm)
  · rcases Nat.lt_or_ge r h.nx with h1 | h1
    · rw [at1 h1] at hc
      have := (hs.new r c hc hm).1; omega
    · refine ⟨h1, ?_⟩
      have hc : (if r < h.nx then m' r else match L[r - h.nx]? with | some q => m' q | none => none) = some c := hc
      rw [if_neg (by omega)] at hc
      cases hg : L[r - h.nx]? with
      | none => rw [hg] at hc; cases hc
      | some q =>
        have := (List.getElem?_eq_some_iff.1 hg).1
        show r < h.nx + L.length
        omega
  · obtain ⟨s, q, h1, h2, h3, _⟩ := from' r o hg
    exact (renO_rel (hs.rel.obj s q b z h1 (h3 ▸ hm)) h2).1
  · obtain ⟨s1, q1, g1, g2, g3, g4⟩ := from' r o hg
    obtain ⟨s2, q2, k1, k2, k3, k4⟩ := from' s q hg'
    exact same g4 k4 (hs.rel.inj s1 s2 q1 q2 b y z g1 (livO g2) k1 (livO k2) (g3 ▸ hm) (k3 ▸ hm'))
  · obtain ⟨s, q, h1, h2, h3, _⟩ := from' r o hg
    exact hs.rel.out s q b z h1 (livO h2) (h3 ▸ hm)
  · cases hg : ({ nx := Nat.add h.nx L.length, m := t2, lo := 0 } : Hp).get r with
    | none => rfl
    | some o =>
      have hr : h.nx + L.length ≤ r := hr
      rcases key r o hg with ⟨h1, _⟩ | ⟨i, q, s, h1, h2, _⟩
      · omega
      · have := (List.getElem?_eq_some_iff.1 h2).1; omega
  · have hlt : r < h.nx := by
      rcases Nat.lt_or_ge r h.nx with h1 | h1
      · exact h1
      · rw [hfree r h1] at hm; cases hm
    rcases key r o' hg with ⟨_, q, h2, h3⟩ | ⟨i, q, s, h1, _⟩
    · exact hs.keep r q c h2 (livO h3) hm
    · omega
  · obtain ⟨o, hg, hlo⟩ := hl
    obtain ⟨s, q, h1, h2, h3, h4⟩ := from' r o hg
    have hms : m s = none := by
      rcases h4 with ⟨_, rfl⟩ | ⟨i, _, hi⟩
      · exact hn
      · exact hfree s (hge s (List.mem_of_getElem? hi))
    exact hs.mnew s b z (h3 ▸ hm) hms ⟨q, h1, livO h2⟩
end
end Go.Ax

/- An evaluator of code that tells all outcomes: where a map is ranged over, each order. -/
noncomputable section
namespace Go.Ax
def bindL {α β : Type} (f : α → Option (List β)) : List α → Option (List β)
  | [] => some []
  | x :: l => match f x, bindL f l with
    | some a, some b => some (a ++ b)
    | _, _ => none
theorem bindL_mem {α β : Type} {f : α → Option (List β)} : ∀ {l : List α} {k : List β}, bindL f l = some k → (∀ x ∈ l, ∃ a, f x = some a ∧ ∀ y ∈ a, y ∈ k) ∧ ∀ y ∈ k, ∃ x ∈ l, ∃ a, f x = some a ∧ y ∈ a
  | [], k, h => by cases h; exact ⟨fun x hx => (by cases hx), fun y hy => (by cases hy)⟩
  | x :: l, k, h => by
    unfold bindL at h
    split at h
    case h_2 => cases h
    rename_i a b ha hb
    cases h
    obtain ⟨h1, h2⟩ := bindL_mem hb
    refine ⟨fun z hz => ?_, fun y hy => ?_⟩
    · rcases List.mem_cons.1 hz with rfl | hz
      · exact ⟨a, ha, fun y hy => List.mem_append_left _ hy⟩
      · obtain ⟨c, hc, hm⟩ := h1 z hz
        exact ⟨c, hc, fun y hy => List.mem_append_right _ (hm y hy)⟩
    · rcases List.mem_append.1 hy with hy | hy
      · exact ⟨x, List.mem_cons_self, a, ha, hy⟩
      · obtain ⟨z, hz, c, hc, hm⟩ := h2 y hy
        exact ⟨z, List.mem_cons_of_mem _ hz, c, hc, hm⟩

/-! ### Memories held against each other -/
def eqNs : List Nat → List Nat → Bool
  | [], [] => true
  | a :: l, b :: k => Nat.beq a b && eqNs l k
  | _, _ => false
def eqEs : List (AV × AV × Nat) → List (AV × AV × Nat) → Bool
  | [], [] => true
  | (a, b, c) :: l, (d, e, f) :: k => eqV a d && (eqV b e && (Nat.beq c f && eqEs l k))
  | _, _ => false
def eqO : AObj → AObj → Bool
  | .cells e a, .cells f b => Nat.beq e f && eqVs a b
  | .map a c, .map b d => Nat.beq c d && eqEs a b
  | .siter s p, .siter t q => Nat.beq p q && eqNs s t
  | .miter q a s l, .miter r b t k => Nat.beq q r && (Nat.beq a b && (Nat.beq l k && eqNs s t))
  | .defd none, .defd none => true
  | .defd (some []), .defd (some []) => true
  | .dead, .dead => true
  | _, _ => false
def eqOO : Option AObj → Option AObj → Bool
  | none, none => true
  | some a, some b => eqO a b
  | _, _ => false
def eqTr : Tr AObj → Tr AObj → Bool
  | .e, .e => true
  | .n a x b, .n c y d => eqOO x y && (eqTr a c && eqTr b d)
  | _, _ => false
def eqH (a b : AV × Hp) : Bool := eqV a.1 b.1 && (Nat.beq a.2.nx b.2.nx && (Nat.beq a.2.lo b.2.lo && eqTr a.2.m b.2.m))
theorem eqNs_eq : ∀ {a b : List Nat}, eqNs a b = true → a = b
  | [], [], _ => rfl
  | x :: l, y :: k, h => by
    unfold eqNs at h
    obtain ⟨h1, h2⟩ := and_bool h
    rw [Nat.eq_of_beq_eq_true h1, eqNs_eq h2]
  | [], _ :: _, h => by cases h
  | _ :: _, [], h => by cases h
theorem eqEs_eq : ∀ {a b : List (AV × AV × Nat)}, eqEs a b = true → a = b
  | [], [], _ => rfl
  | (x, y, z) :: l, (u, v, w) :: k, h => by
    unfold eqEs at h
    obtain ⟨h1, h⟩ := and_bool h
    obtain ⟨h2, h⟩ := and_bool h
    obtain ⟨h3, h4⟩ := and_bool h
    rw [eqV_eq _ _ h1, eqV_eq _ _ h2, Nat.eq_of_beq_eq_true h3, eqEs_eq h4]
  | [], _ :: _, h => by cases h
  | _ :: _, [], h => by cases h
theorem eqO_eq {a b : AObj} (h : eqO a b = true) : a = b := by
  unfold eqO at h
  split at h
  · obtain ⟨h1, h2⟩ := and_bool h; rw [Nat.eq_of_beq_eq_true h1, eqVs_eq _ _ h2]
  · obtain ⟨h1, h2⟩ := and_bool h; rw [Nat.eq_of_beq_eq_true h1, eqEs_eq h2]
  · obtain ⟨h1, h2⟩ := and_bool h; rw [Nat.eq_of_beq_eq_true h1, eqNs_eq h2]
  · obtain ⟨h1, h⟩ := and_bool h
    obtain ⟨h2, h⟩ := and_bool h
    obtain ⟨h3, h4⟩ := and_bool h
    rw [Nat.eq_of_beq_eq_true h1, Nat.eq_of_beq_eq_true h2, Nat.eq_of_beq_eq_true h3, eqNs_eq h4]
  · rfl
  · rfl
  · rfl
  · cases h
theorem eqTr_eq : ∀ {a b : Tr AObj}, eqTr a b = true → a = b
  | .e, .e, _ => rfl
  | .n a x b, .n c y d, h => by
    unfold eqTr at h
    obtain ⟨h1, h⟩ := and_bool h
    obtain ⟨h2, h3⟩ := and_bool h
    have hx : x = y := by
      unfold eqOO at h1
      split at h1
      · rfl
      · rw [eqO_eq h1]
      · cases h1
    rw [hx, eqTr_eq h2, eqTr_eq h3]
  | .e, .n _ _ _, h => by cases h
  | .n _ _ _, .e, h => by cases h
theorem eqH_eq {a b : AV × Hp} (h : eqH a b = true) : a = b := by
  obtain ⟨v, h1, m1, l1⟩ := a
  obtain ⟨u, h2, m2, l2⟩ := b
  unfold eqH at h
  obtain ⟨g1, h⟩ := and_bool h
  obtain ⟨g2, h⟩ := and_bool h
  obtain ⟨g3, g4⟩ := and_bool h
  have e1 : v = u := eqV_eq _ _ g1
  have e2 : h1 = h2 := Nat.eq_of_beq_eq_true g2
  have e3 : l1 = l2 := Nat.eq_of_beq_eq_true g3
  have e4 : m1 = m2 := eqTr_eq g4
  subst e1 e2 e3 e4
  rfl
/-- Outcomes that are one are told once. -/
def nubH : List (AV × Hp) → List (AV × Hp)
  | [] => []
  | x :: l => bif (nubH l).any (eqH x) then nubH l else x :: nubH l
theorem nubH_mem : ∀ {l : List (AV × Hp)}, (∀ x ∈ l, x ∈ nubH l) ∧ ∀ x ∈ nubH l, x ∈ l
  | [] => ⟨fun _ h => h, fun _ h => h⟩
  | x :: l => by
    obtain ⟨h1, h2⟩ := nubH_mem (l := l)
    unfold nubH
    cases ha : (nubH l).any (eqH x) with
    | true =>
      obtain ⟨y, hy, he⟩ := List.any_eq_true.1 ha
      refine ⟨fun z hz => ?_, fun z hz => List.mem_cons_of_mem _ (h2 z hz)⟩
      rcases List.mem_cons.1 hz with rfl | hz
      · rw [eqH_eq he]; exact hy
      · exact h1 z hz
    | false =>
      refine ⟨fun z hz => ?_, fun z hz => ?_⟩
      · rcases List.mem_cons.1 hz with rfl | hz
        · exact List.mem_cons_self
        · exact List.mem_cons_of_mem _ (h1 z hz)
      · rcases List.mem_cons.1 hz with rfl | hz
        · exact List.mem_cons_self
        · exact List.mem_cons_of_mem _ (h2 z hz)

/-! ### What a call laid, struck where nothing old comes to it -/
mutual
def okV (b : Nat) : AV → Bool
  | .ptr r _ => Nat.blt r b
  | .sl r _ _ _ _ _ => Nat.blt r b
  | .map r => Nat.blt r b
  | .fn (.yield _) _ _ => false
  | .fn _ a c => okVs b a && okVs b c
  | .iface _ v => okV b v
  | .agg l => okVs b l
  | .tup l => okVs b l
  | _ => true
def okVs (b : Nat) : List AV → Bool
  | [] => true
  | v :: l => okV b v && okVs b l
end
def okEs (b : Nat) : List (AV × AV × Nat) → Bool
  | [] => true
  | e :: l => okV b e.1 && (okV b e.2.1 && okEs b l)
def okO (b : Nat) : AObj → Bool
  | .cells _ cs => okVs b cs
  | .map es _ => okEs b es
  | .siter _ _ => true
  | .miter q _ _ _ => Nat.blt q b
  | .defd _ => true
  | .dead => true
  | _ => false
def mkN : Tr AObj → Option AObj → Tr AObj → Tr AObj
  | .e, none, .e => .e
  | l, v, r => .n l v r
/-- The part of a tree of names below b (the tree's own numbers i stand for a * i + c). -/
def cutO (b : Nat) : Tr AObj → Nat → Nat → Option (Tr AObj)
  | .e, _, _ => some .e
  | .n l v r, a, c => bif Nat.ble b c then some .e else
    match cutO b l (Nat.add a a) (Nat.add a c), cutO b r (Nat.add a a) (Nat.add (Nat.add a a) c) with
    | some l', some r' => (match v with
      | none => some (mkN l' none r')
      | some o => bif okO b o then some (mkN l' (some o) r') else none)
    | _, _ => none
def quick (b : Nat) (v : AV) (h : Hp) : Option (AV × Hp) :=
  bif okV b v then (match cutO b h.m 1 0 with | some t => some (v, { nx := h.nx, m := t, lo := 0 }) | none => none) else none
theorem mkN_get (l : Tr AObj) (v : Option AObj) (r : Tr AObj) (i : Nat) : (mkN l v r).get i = (Tr.n l v r).get i := by
  unfold mkN
  split
  · rw [Tr.get_n, Tr.get_e]
    split
    · rfl
    · split <;> rfl
  · rfl
theorem cutO_get {b : Nat} : ∀ {t t' : Tr AObj} {a c : Nat}, cutO b t a c = some t' → ∀ i o, t'.get i = some o → t.get i = some o
  | .e, t', a, c, h, i, o, hi => by cases h; exact hi
  | .n l v r, t', a, c, h, i, o, hi => by
    unfold cutO at h
    cases hb : Nat.ble b c with
    | true => rw [hb] at h; cases h; rw [Tr.get_e] at hi; cases hi
    | false =>
      rw [hb, cond_false] at h
      split at h
      case h_2 => cases h
      rename_i l' r' hl hr
      have key : ∀ v', (v' = none ∨ v' = v) → (mkN l' v' r').get i = some o → (Tr.n l v r).get i = some o := fun v' hv hg => by
        rw [mkN_get, Tr.get_n] at hg
        rw [Tr.get_n]
        split
        · rename_i h0
          rw [if_pos h0] at hg
          rcases hv with rfl | rfl
          · cases hg
          · exact hg
        · rename_i h0
          rw [if_neg h0] at hg
          split
          · rename_i h1
            rw [if_pos h1] at hg
            exact cutO_get hl _ o hg
          · rename_i h1
            rw [if_neg h1] at hg
            exact cutO_get hr _ o hg
      split at h
      · cases h; exact key none (.inl rfl) hi
      · obtain ⟨_, h⟩ := cond_some' h
        cases h; exact key _ (.inr rfl) hi
theorem quick_rel {P : Program} {F : Nat → Option Obj} {m m' : Loc} {b : Nat} {h h' h2 : Hp} {w w' : World} {v u : AV} (hs : Step P F m h h' w w' m') (hc : quick b v h' = some (u, h2)) : u = v ∧ Step P F m h h2 w w' m' := by
  unfold quick at hc
  obtain ⟨_, hc⟩ := cond_some' hc
  split at hc
  case h_2 => cases hc
  rename_i t ht
  cases hc
  have sub : ∀ r o, ({ nx := h'.nx, m := t, lo := 0 } : Hp).get r = some o → h'.get r = some o := fun r o hg => cutO_get ht r o hg
  exact ⟨rfl, hs.le, hs.new, ⟨fun r o b z hg hm => hs.rel.obj r o b z (sub r o hg) hm, fun r s o q b y z hg hl hg' hl' hm hm' => hs.rel.inj r s o q b y z (sub r o hg) hl (sub s q hg') hl' hm hm', fun r o b z hg hl hm => hs.rel.out r o b z (sub r o hg) hl hm, hs.rel.frz, fun r hr => by
    cases hg : ({ nx := h'.nx, m := t, lo := 0 } : Hp).get r with
    | none => rfl
    | some o =>
      have h1 := hs.rel.wf r hr
      have h2 := sub r o hg
      rw [h1] at h2; cases h2⟩, hs.same, hs.size, hs.old, hs.nx, fun r o' c hg hl hm => hs.keep r o' c (sub r o' hg) hl hm, fun r b z h1 h2 ⟨o, hg, hl⟩ => hs.mnew r b z h1 h2 ⟨o, sub r o hg, hl⟩, hs.fnew⟩
theorem quick_le {b : Nat} {h h' h2 : Hp} {v u : AV} (hle : HpLe h h') (hc : quick b v h' = some (u, h2)) : HpLe h h2 := by
  unfold quick at hc
  obtain ⟨_, hc⟩ := cond_some' hc
  split at hc
  case h_2 => cases hc
  rename_i t ht
  cases hc
  refine ⟨hle.nx, Nat.zero_le _, fun r _ h2 => absurd h2 (Nat.not_lt_zero _), fun hw r hr => ?_⟩
  cases hg : ({ nx := h'.nx, m := t, lo := 0 } : Hp).get r with
  | none => rfl
  | some o =>
    have h1 := hle.wf hw r hr
    have h2 : h'.get r = some o := cutO_get ht r o hg
    rw [h1] at h2; cases h2

/-! ### States told anew in the midst of a function -/
/-- A tree's part: what is below b, and what is among some. -/
def selT (b : Nat) (L : List Nat) : Tr AObj → Nat → Nat → Tr AObj
  | .e, _, _ => .e
  | .n l v r, a, c => mkN (selT b L l (Nat.add a a) (Nat.add a c)) (bif Nat.blt c b || memF c L then v else none) (selT b L r (Nat.add a a) (Nat.add (Nat.add a a) c))
theorem selT_get {b : Nat} {L : List Nat} : ∀ {t : Tr AObj} {a c : Nat} (i : Nat) (o : AObj), (selT b L t a c).get i = some o → t.get i = some o
  | .e, a, c, i, o, hi => hi
  | .n l v r, a, c, i, o, hi => by
    unfold selT at hi
    rw [mkN_get, Tr.get_n] at hi
    rw [Tr.get_n]
    split
    · rename_i h0
      rw [if_pos h0] at hi
      cases hc : (Nat.blt c b || memF c L) with
      | true => rw [hc] at hi; exact hi
      | false => rw [hc] at hi; cases hi
    · rename_i h0
      rw [if_neg h0] at hi
      split
      · rename_i h1
        rw [if_pos h1] at hi
        exact selT_get _ o hi
      · rename_i h1
        rw [if_neg h1] at hi
        exact selT_get _ o hi
/-- So many temporaries that may be anything. -/
def undefT (n : Nat) : Tr AV := Nat.rec (motive := fun _ => Tr AV) .e (fun k u => u.set k .undef) n
theorem undefT_get : ∀ (n t : Nat), tget (undefT n) t = if t < n then .undef else .tup []
  | 0, t => by
    show (match (Tr.e : Tr AV).get t with | some v => v | none => .tup []) = _
    rw [Tr.get_e]; rfl
  | n + 1, t => by
    show (match ((undefT n).set n .undef).get t with | some v => v | none => .tup []) = _
    rw [Tr.get_set]
    by_cases h : n = t
    · subst h
      rw [if_pos rfl, if_pos (by omega)]
    · rw [if_neg h]
      refine (undefT_get n t).trans ?_
      by_cases h1 : t < n
      · rw [if_pos h1, if_pos (by omega)]
      · rw [if_neg h1, if_neg (by omega)]
/-- Temporaries: some stay, the others may be anything. -/
def keepT (tm : Tr AV) (n : Nat) : List Nat → Tr AV
  | [] => undefT n
  | k :: l => (keepT tm n l).set k (tget tm k)
theorem keepT_get {tm : Tr AV} {n : Nat} (t : Nat) : ∀ {T : List Nat}, tget (keepT tm n T) t = tget tm t ∨ tget (keepT tm n T) t = if t < n then .undef else .tup []
  | [] => .inr (undefT_get n t)
  | k :: l => by
    have e : tget (keepT tm n (k :: l)) t = if k = t then tget tm k else tget (keepT tm n l) t := by
      show (match ((keepT tm n l).set k (tget tm k)).get t with | some v => v | none => .tup []) = _
      rw [Tr.get_set]
      by_cases h : k = t
      · rw [if_pos h, if_pos h]
      · rw [if_neg h, if_neg h]; rfl
    rw [e]
    by_cases h : k = t
    · subst h
      rw [if_pos rfl]; exact .inl rfl
    · rw [if_neg h]; exact keepT_get t
/-- The names to which some temporaries come. -/
def tmNames (tm : Tr AV) : List Nat → List Nat
  | [] => []
  | t :: l => namesV (tget tm t) ++ tmNames tm l
/-- What is below b, without some. -/
def selD (b : Nat) (L : List Nat) : Tr AObj → Nat → Nat → Tr AObj
  | .e, _, _ => .e
  | .n l v r, a, c => mkN (selD b L l (Nat.add a a) (Nat.add a c)) (bif Nat.blt c b && !memF c L then v else none) (selD b L r (Nat.add a a) (Nat.add (Nat.add a a) c))
theorem selD_get {b : Nat} {L : List Nat} : ∀ {t : Tr AObj} {a c : Nat} (i : Nat) (o : AObj), (selD b L t a c).get i = some o → t.get i = some o
  | .e, a, c, i, o, hi => hi
  | .n l v r, a, c, i, o, hi => by
    unfold selD at hi
    rw [mkN_get, Tr.get_n] at hi
    rw [Tr.get_n]
    split
    · rename_i h0
      rw [if_pos h0] at hi
      cases hc : (Nat.blt c b && !memF c L) with
      | true => rw [hc] at hi; exact hi
      | false => rw [hc] at hi; cases hi
    · rename_i h0
      rw [if_neg h0] at hi
      split
      · rename_i h1
        rw [if_pos h1] at hi
        exact selD_get _ o hi
      · rename_i h1
        rw [if_neg h1] at hi
        exact selD_get _ o hi
/-- How states are told anew ahead of a region: the temporaries that are asked for yet (all: all of them); gc: a temporary that points to the function's first block (what nobody comes to goes); thr: a temporary behind whose name all goes; drop: temporaries whose blocks go; least: doubles are struck where there are more states than that; pk: where to look first (a temporary's block; or the block at a place of it). -/
structure Cut where
  keep : List Nat
  all : Bool
  gc : List Nat
  thr : List Nat
  drop : List Nat
  least : Nat
  pk : List Nat
def ctL : List (Nat × Nat × Cut) → Nat → Nat → Option Cut
  | [], _, _ => none
  | e :: l, i, n => bif Nat.beq e.2.1 n && Nat.beq e.1 i then some e.2.2 else ctL l i n
def cleanH (q : Cut) (s : St) : Hp :=
  match q.gc with
  | tb :: _ => (match tget s.tm tb with
    | .ptr b 0 => { nx := s.h.nx, m := selT b (seekN s.h b 4000 (tmNames s.tm q.keep ++ rootsO s.h b) []) s.h.m 1 0, lo := 0 }
    | _ => s.h)
  | [] => (match q.thr with
    | tb :: _ => (match namesV (tget s.tm tb) with
      | r :: _ => { nx := s.h.nx, m := selD (Nat.succ r) (tmNames s.tm q.drop) s.h.m 1 0, lo := 0 }
      | [] => s.h)
    | [] => s.h)
def cleanS (q : Cut) (s : St) : St := { s with tm := bif q.all then s.tm else keepT s.tm s.n q.keep, h := cleanH q s }
theorem cleanH_get (q : Cut) (s : St) : (cleanH q s).nx = s.h.nx ∧ ((cleanH q s).lo = 0 ∨ cleanH q s = s.h) ∧ ∀ r o, (cleanH q s).get r = some o → s.h.get r = some o := by
  unfold cleanH
  split
  · split
    · exact ⟨rfl, .inl rfl, fun r o hg => selT_get r o hg⟩
    · exact ⟨rfl, .inr rfl, fun _ _ h => h⟩
  · split
    · split
      · exact ⟨rfl, .inl rfl, fun r o hg => selD_get r o hg⟩
      · exact ⟨rfl, .inr rfl, fun _ _ h => h⟩
    · exact ⟨rfl, .inr rfl, fun _ _ h => h⟩
/-- What stands for an outcome: itself, or less of it. -/
structure Les (x y : Ex × St) : Prop where
  e : y.1 = x.1
  n : y.2.n = x.2.n
  rd : y.2.rd = x.2.rd
  le : ∀ h, HpLe h x.2.h → HpLe h y.2.h
  rel : ∀ {P : Program} {F : Nat → Option Obj} {m m' : Loc} {h : Hp} {w w' : World} {a : Act}, Step P F m h x.2.h w w' m' → ARel P F m' x.2 a → Step P F m h y.2.h w w' m' ∧ ARel P F m' y.2 a
theorem Les.trans {x y z : Ex × St} (h : Les x y) (k : Les y z) : Les x z := ⟨k.e.trans h.e, k.n.trans h.n, k.rd.trans h.rd, fun g hg => k.le g (h.le g hg), fun a b => have c := h.rel a b; k.rel c.1 c.2⟩
theorem Les.refl (x : Ex × St) : Les x x := ⟨rfl, rfl, rfl, fun _ h => h, fun h k => ⟨h, k⟩⟩
theorem Step.less {P : Program} {F : Nat → Option Obj} {m m' : Loc} {h h' h2 : Hp} {w w' : World} (hs : Step P F m h h' w w' m') (hn : h2.nx = h'.nx) (sub : ∀ r o, h2.get r = some o → h'.get r = some o) : Step P F m h h2 w w' m' :=
  ⟨hs.le, fun r c h1 h3 => by rw [hn]; exact hs.new r c h1 h3, ⟨fun r o b z hg hm => hs.rel.obj r o b z (sub r o hg) hm, fun r s o q b y z hg hl hg' hl' hm hm' => hs.rel.inj r s o q b y z (sub r o hg) hl (sub s q hg') hl' hm hm', fun r o b z hg hl hm => hs.rel.out r o b z (sub r o hg) hl hm, hs.rel.frz, fun r hr => by
    cases hg : h2.get r with
    | none => rfl
    | some o =>
      have h1 := hs.rel.wf r (by rw [← hn]; exact hr)
      have h3 := sub r o hg
      rw [h1] at h3; cases h3⟩, hs.same, hs.size, hs.old, by rw [hn]; exact hs.nx, fun r o' c hg hl hm => hs.keep r o' c (sub r o' hg) hl hm, fun r b z h1 h2 ⟨o, hg, hl⟩ => hs.mnew r b z h1 h2 ⟨o, sub r o hg, hl⟩, hs.fnew⟩
theorem cleanS_les (q : Cut) (e : Ex) (s : St) : Les (e, s) (e, cleanS q s) := by
  obtain ⟨h1, h2, h3⟩ := cleanH_get q s
  refine ⟨rfl, rfl, rfl, fun h hl => ?_, fun hs ha => ⟨hs.less h1 h3, ⟨⟨ha.tm.size, fun t ht => ?_, fun t ht => ?_⟩, ha.ds⟩⟩⟩
  · show HpLe h (cleanH q s)
    rcases h2 with h2 | h2
    · refine ⟨by rw [h1]; exact hl.nx, by rw [h2]; exact Nat.zero_le _, fun r _ h4 => by rw [h2] at h4; exact absurd h4 (Nat.not_lt_zero _), fun hw r hr => ?_⟩
      cases hg : (cleanH q s).get r with
      | none => rfl
      | some o =>
        have h5 := hl.wf hw r (by rw [← h1]; exact hr)
        have h6 := h3 r o hg
        rw [h5] at h6; cases h6
    · rw [h2]; exact hl
  · show VRel _ _ _ (tget (bif q.all then s.tm else keepT s.tm s.n q.keep) t) _
    have ht : t < s.n := ht
    cases q.all with
    | true => exact ha.tm.at' t ht
    | false =>
      rcases keepT_get (tm := s.tm) (n := s.n) t (T := q.keep) with h4 | h4
      · rw [cond_false, h4]; exact ha.tm.at' t ht
      · rw [cond_false, h4, if_pos ht]; exact .undef _
  · show tget (bif q.all then s.tm else keepT s.tm s.n q.keep) t = _
    have ht : s.n ≤ t := ht
    cases q.all with
    | true => exact ha.tm.out t ht
    | false =>
      rcases keepT_get (tm := s.tm) (n := s.n) t (T := q.keep) with h4 | h4
      · rw [cond_false, h4]; exact ha.tm.out t ht
      · rw [cond_false, h4, if_neg (by omega)]
/-- Are two states the same? -/
def eqTm : Tr AV → Tr AV → Bool
  | .e, .e => true
  | .n a x b, .n c y d => (match x, y with | none, none => true | some u, some v => eqV u v | _, _ => false) && (eqTm a c && eqTm b d)
  | _, _ => false
theorem eqTm_eq : ∀ {a b : Tr AV}, eqTm a b = true → a = b
  | .e, .e, _ => rfl
  | .n a x b, .n c y d, h => by
    unfold eqTm at h
    obtain ⟨h1, h2⟩ := and_bool h
    obtain ⟨h3, h4⟩ := and_bool h2
    rw [eqTm_eq h3, eqTm_eq h4]
    cases x <;> cases y <;> first | rfl | cases h1 | (rename_i u v; have := eqV_eq _ _ h1; rw [this])
  | .e, .n _ _ _, h => by cases h
  | .n _ _ _, .e, h => by cases h
def eqEx : Ex → Ex → Bool
  | .normal, .normal => true
  | .ret, .ret => true
  | .exit a, .exit b => Nat.beq a b
  | .goto a, .goto b => Nat.beq a b
  | _, _ => false
def eqX (x y : Ex × St) : Bool :=
  eqEx x.1 y.1 && (Nat.beq x.2.n y.2.n && (Nat.beq x.2.h.nx y.2.h.nx && (Nat.beq x.2.h.lo y.2.h.lo && ((match x.2.ds, y.2.ds with | [], [] => true | _, _ => false) && ((match x.2.rd, y.2.rd with | none, none => true | _, _ => false) && (eqTm x.2.tm y.2.tm && eqTr x.2.h.m y.2.h.m))))))
theorem eqX_eq {x y : Ex × St} (h : eqX x y = true) : x = y := by
  obtain ⟨e1, n1, t1, ⟨a1, b1, c1⟩, d1, r1⟩ := x
  obtain ⟨e2, n2, t2, ⟨a2, b2, c2⟩, d2, r2⟩ := y
  unfold eqX at h
  obtain ⟨g1, h⟩ := and_bool h
  obtain ⟨g2, h⟩ := and_bool h
  obtain ⟨g3, h⟩ := and_bool h
  obtain ⟨g4, h⟩ := and_bool h
  obtain ⟨g5, h⟩ := and_bool h
  obtain ⟨g6, h⟩ := and_bool h
  obtain ⟨g7, g8⟩ := and_bool h
  have k2 : n1 = n2 := Nat.eq_of_beq_eq_true g2
  have k3 : a1 = a2 := Nat.eq_of_beq_eq_true g3
  have k4 : c1 = c2 := Nat.eq_of_beq_eq_true g4
  have k7 : t1 = t2 := eqTm_eq g7
  have k8 : b1 = b2 := eqTr_eq g8
  have k1 : e1 = e2 := by
    cases e1 <;> cases e2 <;> first | rfl | cases g1 | (have := Nat.eq_of_beq_eq_true g1; rw [this])
  have k5 : d1 = d2 := by cases d1 <;> cases d2 <;> first | rfl | cases g5
  have k6 : r1 = r2 := by cases r1 <;> cases r2 <;> first | rfl | cases g6
  subst k1 k2 k3 k4 k5 k6 k7 k8
  rfl
/-- Are two states the same, what stands at a place of memory being looked at first? -/
def peek1 (h : Hp) (v : AV) : Option AObj :=
  match namesV v with
  | r :: _ => h.get r
  | [] => none
def peek (pk : List Nat) (s : St) : Option AObj :=
  match pk with
  | [t] => peek1 s.h (tget s.tm t)
  | [t, o] => (match peek1 s.h (tget s.tm t) with
    | some (.cells _ cs) => (match cs[o]? with | some v => peek1 s.h v | none => none)
    | _ => none)
  | _ => none
def eqP (pk : List Nat) (x y : Ex × St) : Bool := eqOO (peek pk x.2) (peek pk y.2) && eqX x y
def nubX (pk : List Nat) : List (Ex × St) → List (Ex × St)
  | [] => []
  | x :: l => (fun k => bif k.any (eqP pk x) then k else x :: k) (nubX pk l)
theorem nubX_mem {pk : List Nat} : ∀ {l : List (Ex × St)}, (∀ x ∈ l, x ∈ nubX pk l) ∧ ∀ x ∈ nubX pk l, x ∈ l
  | [] => ⟨fun _ h => h, fun _ h => h⟩
  | x :: l => by
    obtain ⟨h1, h2⟩ := nubX_mem (pk := pk) (l := l)
    show (∀ y ∈ x :: l, y ∈ (bif (nubX pk l).any (eqP pk x) then nubX pk l else x :: nubX pk l)) ∧ ∀ y ∈ (bif (nubX pk l).any (eqP pk x) then nubX pk l else x :: nubX pk l), y ∈ x :: l
    cases hb : (nubX pk l).any (eqP pk x) with
    | true =>
      obtain ⟨y, hy, he⟩ := List.any_eq_true.1 hb
      have := eqX_eq (and_bool he).2
      subst this
      refine ⟨fun z hz => ?_, fun z hz => List.mem_cons_of_mem _ (h2 z hz)⟩
      rcases List.mem_cons.1 hz with rfl | hz
      · exact hy
      · exact h1 z hz
    | false =>
      refine ⟨fun z hz => ?_, fun z hz => ?_⟩
      · rcases List.mem_cons.1 hz with rfl | hz
        · exact List.mem_cons_self
        · exact List.mem_cons_of_mem _ (h1 z hz)
      · rcases List.mem_cons.1 hz with rfl | hz
        · exact List.mem_cons_self
        · exact List.mem_cons_of_mem _ (h2 z hz)
def nubC (q : Cut) (l : List (Ex × St)) : List (Ex × St) := bif Nat.blt q.least l.length then nubX q.pk l else l
theorem nubC_mem {q : Cut} {l : List (Ex × St)} : (∀ x ∈ l, x ∈ nubC q l) ∧ ∀ x ∈ nubC q l, x ∈ l := by
  unfold nubC
  cases Nat.blt q.least l.length with
  | true => exact nubX_mem
  | false => exact ⟨fun _ h => h, fun _ h => h⟩
/-- The number of the region with which code begins. -/
def headR : Code → Option Nat
  | .region id _ _ => some id
  | .seq a _ => headR a
  | .block _ a => headR a
  | .loop a => headR a
  | .cond _ _ _ => none
  | _ => none

/-! ### The evaluator -/
/-- Which functions are walked with all outcomes, whose answers are told anew, and which leave nothing that is new (what they laid is struck). -/
structure NK where
  nd : FuncId → Bool
  an : FuncId → Bool
  kl : FuncId → Bool
  pr : FuncId → List AV → Hp → Option (List (AV × Hp))
  ct : Nat → Nat → Option Cut
abbrev Outs := Option (List (Ex × St))

def nextN (x : AV) (h : Hp) : Option (List (AV × Hp)) :=
  match x with
  | .ptr r 0 => (match h.get r with
    | some (.miter q since seen last) => (match h.get q with
      | some (.map es clock) => bif !seen.isEmpty && (!es.isEmpty && es.all fun e => Nat.ble last e.2.2) then none else (match leftM seen es with
        | [] => some [(.tup [.bool false], h)]
        | l => bif l.all (fun e => Nat.blt e.2.2 since) then some (l.map fun e => (.tup [.bool true, e.1, e.2.1], h.put r (.miter q since (seen ++ [e.2.2]) clock))) else none)
      | _ => none)
    | _ => none)
  | _ => none
def finN (C : Ctx) (ih : Code → St → Res) (fn : Func) (an kl : Bool) (b : Nat) (s : St) : Option (List (AV × Hp)) :=
  match runDefs C ih s.ds s.h with
  | some h' => (match resultsA C { s with h := h' } fn.results.toList with
    | some vs => bif kl then (match quick b (tupOf vs) h' with | some x => some [x] | none => some [(tupOf vs, h')]) else bif an then (match anew b (tupOf vs) h' with | some x => some [x] | none => some [(tupOf vs, h')]) else some [(tupOf vs, h')]
    | none => none)
  | none => none
def endN (C : Ctx) (ih : Code → St → Res) (fn : Func) (an kl : Bool) (b : Nat) (x : Ex × St) : Option (List (AV × Hp)) :=
  match x.1 with
  | .normal => finN C ih fn an kl b x.2
  | .ret => finN C ih fn an kl b x.2
  | _ => none
def callN (C : Ctx) (N : NK) (ih : Code → St → Res) (ihN : Code → St → Outs) (f : FuncId) (args : List AV) (h : Hp) : Option (List (AV × Hp)) :=
  match N.pr f args h with
  | some L => some L
  | none => match C.fn.get f with
  | some fn => (match fn.body with
    | some c => bif Nat.ble args.length fn.ntmps then
        (match ihN c { n := fn.ntmps, tm := setArgs .e 0 args, h := h, ds := [], rd := none } with
        | some L => (match bindL (endN C ih fn (N.an f) (N.kl f) h.nx) L with | some o => some (nubH o) | none => none)
        | none => none) else none
    | none => none)
  | none => none
/-- What an operation sets off that has several outcomes. -/
inductive NdOp where
  | next (x : AV)
  | call (g : FuncId) (args : List AV)
def ndOp (C : Ctx) (N : NK) (s : St) (o : Oper) : Option NdOp :=
  match o.op with
  | .next x false => some (.next (s.ev C x))
  | .call c => (match c.callee with
    | .value f => (match s.ev C f with
      | .fn (.func g) first cap => bif N.nd g then some (.call g (first ++ allA C s c.args.toList ++ cap)) else none
      | _ => none)
    | _ => none)
  | _ => none
def opN (C : Ctx) (N : NK) (ih : Code → St → Res) (ihN : Code → St → Outs) (h : Hp) : NdOp → Option (List (AV × Hp))
  | .next x => nextN x h
  | .call g args => callN C N ih ihN g args h
/-- An operation's outcomes. -/
def opsN (P : Program) (C : Ctx) (N : NK) (ih : Code → St → Res) (ihN : Code → St → Outs) (s : St) (o : Oper) : Option (List (AV × Hp)) :=
  match ndOp C N s o with
  | some d => opN C N ih ihN s.h d
  | none => match opA P C ih s o with
    | some (.val v h) => some [(v, h)]
    | _ => none
def runOpsN (P : Program) (C : Ctx) (N : NK) (ih : Code → St → Res) (ihN : Code → St → Outs) (ops : List Oper) : List Oper → St → Outs
  | [], s => some [(.normal, s)]
  | o :: l, s => match wantedA ops s o with
    | none => none
    | some false => (match putD s o.dst (.tup []) s.h with | some s' => runOpsN P C N ih ihN ops l s' | none => none)
    | some true => (match opsN P C N ih ihN s o with
      | some outs => bindL (fun x => match putD s o.dst x.1 x.2 with | some s' => runOpsN P C N ih ihN ops l s' | none => none) outs
      | none => none)
def afterN (s : St) (l d : Nat) (o : AV × Hp) : Outs :=
  match o.2.get l with
  | some (.loop .ready none _ _ _ _ _ _) => some [(.normal, { s with h := o.2.put l .dead, ds := .coll d :: s.ds })]
  | _ => none
def rangeFN (C : Ctx) (N : NK) (ih : Code → St → Res) (ihN : Code → St → Outs) (g : Operand) (ps : List Nat) (asn body : Code) (s : St) : Outs :=
  match s.rd with
  | some _ => none
  | none => match s.ev C g with
    | .fn (.func f) first cap => (match callN C N ih ihN f (first ++ [.fn (.yield (Nat.succ s.h.nx)) [] []] ++ cap) ((s.h.new (.defd (some []))).new (.loop .ready none s.tm s.n ps asn body s.h.nx)) with
      | some outs => bindL (afterN s (Nat.succ s.h.nx) s.h.nx) outs
      | none => none)
    | _ => none
def goN (ihN : Code → St → Outs) (c : Code) (x : Ex × St) : Outs :=
  match x.1 with
  | .normal => ihN c x.2
  | _ => some [x]
def blkN (id : Nat) (x : Ex × St) : Ex × St :=
  match x.1 with
  | .exit j => bif Nat.beq j id then (.normal, x.2) else x
  | _ => x
def cut1 (q : Cut) (x : Ex × St) : Ex × St :=
  match x.1 with
  | .normal => (.normal, cleanS q x.2)
  | _ => x
/-- The cut ahead of code c of a function with n temporaries, where there is one. -/
def ctN (N : NK) (n : Nat) (c : Code) : Option Cut :=
  match headR c with
  | some i => N.ct i n
  | none => none
def cutN (q : Option Cut) (L : List (Ex × St)) : List (Ex × St) :=
  match q with
  | some q => nubC q (L.map (cut1 q))
  | none => L
theorem cut1_les (q : Cut) (x : Ex × St) : Les x (cut1 q x) := by
  obtain ⟨e, s⟩ := x
  cases e <;> first | exact cleanS_les q _ s | exact .refl _
theorem cutN_mem {q : Option Cut} {L : List (Ex × St)} : (∀ x ∈ L, ∃ y ∈ cutN q L, Les x y) ∧ ∀ y ∈ cutN q L, ∃ x ∈ L, Les x y := by
  unfold cutN
  split
  · rename_i q
    obtain ⟨h1, h2⟩ := nubC_mem (q := q) (l := L.map (cut1 q))
    refine ⟨fun x hx => ⟨_, h1 _ (List.mem_map.2 ⟨x, hx, rfl⟩), cut1_les q x⟩, fun y hy => ?_⟩
    obtain ⟨x, hx, rfl⟩ := List.mem_map.1 (h2 y hy)
    exact ⟨x, hx, cut1_les q x⟩
  · exact ⟨fun x hx => ⟨x, hx, .refl x⟩, fun y hy => ⟨y, hy, .refl y⟩⟩
def normS : List (Ex × St) → List St
  | [] => []
  | x :: l => match x.1 with
    | .normal => x.2 :: normS l
    | _ => normS l
def othS : List (Ex × St) → List (Ex × St)
  | [] => []
  | x :: l => match x.1 with
    | .normal => othS l
    | _ => x :: othS l
theorem normS_mem {s : St} : ∀ {L : List (Ex × St)}, s ∈ normS L ↔ (Ex.normal, s) ∈ L
  | [] => by simp [normS]
  | (e, u) :: l => by
    cases e <;> simp [normS, normS_mem (L := l)]
theorem othS_mem {x : Ex × St} : ∀ {L : List (Ex × St)}, x ∈ othS L ↔ x ∈ L ∧ x.1 ≠ .normal
  | [] => by simp [othS]
  | (e, u) :: l => by
    cases e <;> simp only [othS, List.mem_cons, othS_mem (L := l)]
    · constructor
      · rintro ⟨h1, h2⟩; exact ⟨.inr h1, h2⟩
      · rintro ⟨rfl | h1, h2⟩
        · exact absurd rfl h2
        · exact ⟨h1, h2⟩
    all_goals
      constructor
      · rintro (rfl | ⟨h1, h2⟩)
        · exact ⟨.inl rfl, nofun⟩
        · exact ⟨.inr h1, h2⟩
      · rintro ⟨rfl | h1, h2⟩
        · exact .inl rfl
        · exact .inr ⟨h1, h2⟩
/-- A loop, all its states at once. -/
def loopB (f : St → Outs) (q : Option Cut) (k : Nat) : List St → List (Ex × St) → Outs :=
  Nat.rec (motive := fun _ => List St → List (Ex × St) → Outs) (fun _ _ => none) (fun _ ih cur don => match cur with
    | [] => some don
    | _ :: _ => (match bindL f cur with
      | some L => ih (normS (cutN q L)) (othS (cutN q L) ++ don)
      | none => none)) k
theorem loopB_succ {f : St → Outs} {q : Option Cut} {k : Nat} {cur : List St} {don : List (Ex × St)} : loopB f q (k + 1) cur don = (match cur with
    | [] => some don
    | _ :: _ => (match bindL f cur with
      | some L => loopB f q k (normS (cutN q L)) (othS (cutN q L) ++ don)
      | none => none)) := rfl
/-- What stands behind a list of outcomes; where b's second part is cut, all states go through its first part ahead of that. -/
def thenN (N : NK) (n : Nat) (ihN : Code → St → Outs) (b : Code) (L : List (Ex × St)) : Outs :=
  match b with
  | .seq b1 b2 => (match ctN N n b2 with
    | some q => (match bindL (goN ihN b1) L with
      | some L2 => bindL (goN ihN b2) (cutN (some q) L2)
      | none => none)
    | none => bindL (goN ihN (.seq b1 b2)) L)
  | b => bindL (goN ihN b) L
def stepN (P : Program) (C : Ctx) (N : NK) (ih : Code → St → Res) (ihN : Code → St → Outs) (c : Code) (s : St) : Outs :=
  match c with
  | .skip => some [(.normal, s)]
  | .label _ => some [(.normal, s)]
  | .region _ ops draw => bif draw then (match drawF P C ih ops.toList (masks [] ops.toList) s with | some x => some [x] | none => none) else runOpsN P C N ih ihN ops.toList ops.toList s
  | .seq a b => (match ihN a s with | some L => thenN N s.n ihN b (cutN (ctN N s.n b) L) | none => none)
  | .cond x a b => (match s.ev C x with
    | .bool true => ihN a s
    | .bool false => ihN b s
    | _ => none)
  | .block id a => (match ihN a s with | some L => some (L.map (blkN id)) | none => none)
  | .loop a => (match ctN N s.n a with
    | some q => loopB (ihN a) (some q) 200 [s] []
    | none => (match ihN a s with | some L => bindL (goN ihN (.loop a)) L | none => none))
  | .rangeFunc g ps asn body => rangeFN C N ih ihN g ps.toList asn body s
  | .exit id => some [(.exit id, s)]
  | .goto l => some [(.goto l, s)]
  | .ret => some [(.ret, s)]
  | _ => none
def execN (P : Program) (C : Ctx) (N : NK) (n : Nat) : Code → St → Outs :=
  Nat.rec (motive := fun _ => Code → St → Outs) (fun _ _ => none) (fun k ihN c s => stepN P C N (exec P C k) ihN c s) n

/-! ### It says nothing untrue -/
section
variable {P : Program} {F : Nat → Option Obj} {gl : Nat → AV} {eqT : Knob} {m : Loc} {N : NK}
def Fre (m : Loc) (h : Hp) : Prop := ∀ r, h.nx ≤ r → m r = none
theorem Fre.to {h h' : Hp} (hf : Fre m h) : Free m h h' := fun r h1 _ => hf r h1
theorem Fre.after {h h1 : Hp} {w w1 : World} {m1 : Loc} (hf : Fre m h) (hs : Step P F m h h1 w w1 m1) : Fre m1 h1 := fun r hr => by
  cases hm : m1 r with
  | none => rfl
  | some c =>
    have := (hs.new r c hm (hf r (Nat.le_trans hs.nx hr))).2
    omega
def PostN (P : Program) (F : Nat → Option Obj) (m : Loc) (h : Hp) (L : List (Ex × St)) (w : World) : Exit → Act → World → Prop :=
  fun x a' w' => ∃ o ∈ L, Post P F m h o.2 w o.1 x a' w'
theorem PostN.more {h : Hp} {L K : List (Ex × St)} {w : World} {x : Exit} {a : Act} {w' : World} (hp : PostN P F m h L w x a w') (hL : ∀ o ∈ L, o ∈ K) : PostN P F m h K w x a w' := by
  obtain ⟨o, h1, h2⟩ := hp; exact ⟨o, hL o h1, h2⟩
theorem PostN.after {h h1 : Hp} {w w1 : World} {m1 : Loc} {L : List (Ex × St)} {x : Exit} {a : Act} {w' : World} (hs : Step P F m h h1 w w1 m1) (hp : PostN P F m1 h1 L w1 x a w') : PostN P F m h L w x a w' := by
  obtain ⟨o, h1, h2⟩ := hp; exact ⟨o, h1, h2.after hs⟩
def Kept (s : St) (L : List (Ex × St)) : Prop := ∀ x ∈ L, HpLe s.h x.2.h ∧ x.2.rd = s.rd ∧ x.2.n = s.n
def SoundN (P : Program) (F : Nat → Option Obj) (ihN : Code → St → Outs) : Prop :=
  ∀ c s L, ihN c s = some L → Kept s L ∧ ∀ m a w fe k, HRel P F m s.h w → ARel P F m s a → FenRel m s.rd fe → Fre m s.h → c.wpIn fe k P (PostN P F m s.h L w) a w
def LoopSN (P : Program) (F : Nat → Option Obj) (ihN : Code → St → Outs) : Prop :=
  ∀ c s L, ihN (.loop c) s = some L → ∀ m a w fe k, HRel P F m s.h w → ARel P F m s a → FenRel m s.rd fe → Fre m s.h → wpLoop fe k P (.inLoop c) c (PostN P F m s.h L w) a w
theorem kept_one {s s' : St} {e : Ex} (h : HpLe s.h s'.h) (h1 : s'.rd = s.rd) (h2 : s'.n = s.n) : Kept s [(e, s')] := fun x hx => by
  rw [List.mem_singleton.1 hx]; exact ⟨h, h1, h2⟩

/-- What a call's caller hears. -/
def CallingN (P : Program) (F : Nat → Option Obj) (h : Hp) (L : List (AV × Hp)) (f : FuncId) (args : List AV) : Prop :=
  ∀ (m : Loc) (w : World) (n : Nat) (cargs : Array Value), HRel P F m h w → LRel P F m args cargs.toList → Fre m h → CallsIn Fence.wide n P f cargs w (fun e w' => ∃ o ∈ L, Heard P F m h o.2 w o.1 e w')

/-- What is told of calls that are not walked is so. -/
def PrN (P : Program) (F : Nat → Option Obj) (pr : FuncId → List AV → Hp → Option (List (AV × Hp))) : Prop :=
  ∀ f args h L, pr f args h = some L → (∃ fn c, P.funcs[f]? = some fn ∧ fn.body = some c) ∧ (∀ o ∈ L, HpLe h o.2) ∧ CallingN P F h L f args
theorem nextN_rel {x : AV} {cx : Value} {ty : TypeId} {h : Hp} {w : World} {L : List (AV × Hp)} (ha : nextN x h = some L) (hx : VRel P F m x cx) (hr : HRel P F m h w) :
    (∀ o ∈ L, HpLe h o.2) ∧ ∃ o ∈ L, ∃ cv w', (Instr.next cx false ty).run P w = .ok cv w' ∧ Step P F m h o.2 w w' m ∧ VRel P F m o.1 cv := by
  unfold nextN at ha
  split at ha
  case h_2 => cases ha
  rename_i r
  split at ha
  case h_2 => cases ha
  rename_i q since seen last hg
  split at ha
  case h_2 => cases ha
  rename_i es clock hgq
  obtain ⟨bl, z, hm, rfl⟩ := hx.ptr_inv
  obtain ⟨b, y, hmq, h1⟩ := hr.obj r _ bl z hg hm
  obtain ⟨ces, k1, k2, k3⟩ := hr.obj q _ b y hgq hmq
  have k2' : es.length = ces.toList.length := by simpa using k2
  have k3' : ∀ (i : Nat) (x : AV × AV × Nat) (y : MapEntry), es[i]? = some x → ces.toList[i]? = some y → ERel P F m x y := fun i x y hx hy => k3 i x y hx (by simpa using hy)
  have hem : es.isEmpty = ces.isEmpty := by
    cases es with
    | nil => cases ces using Array.recOn with | _ l => cases l with | nil => rfl | cons _ _ => simp at k2
    | cons _ _ => cases ces using Array.recOn with | _ l => cases l with | nil => simp at k2 | cons _ _ => rfl
  have hall : (es.all fun e => Nat.ble last e.2.2) = (ces.all fun e => decide (e.born ≥ last)) := by
    rw [all_rel es ces.toList k2' k3', Array.all_toList]
  have hse : seen.toArray.isEmpty = seen.isEmpty := by cases seen <;> rfl
  cases hguard : (!seen.isEmpty && (!es.isEmpty && es.all fun e => Nat.ble last e.2.2)) with
  | true => rw [hguard] at ha; cases ha
  | false =>
  rw [hguard, cond_false] at ha
  have hg2 : (!seen.toArray.isEmpty && !ces.isEmpty && ces.all fun e => decide (e.born ≥ last)) = false := by
    rw [hse, ← hem, ← hall, Bool.and_assoc]; exact hguard
  obtain ⟨f1, f2⟩ := filter_rel (seen := seen) es ces.toList k2' k3'
  have hfil : (ces.filter fun e => !seen.toArray.contains e.born).toList = ces.toList.filter fun e => !seen.contains e.born := by
    simp
  split at ha
  · rename_i hl
    cases ha
    have he : (ces.filter fun e => !seen.toArray.contains e.born) = #[] := by
      apply Array.ext'
      rw [hfil]
      rw [hl] at f1
      exact List.eq_nil_of_length_eq_zero f1.symm
    refine ⟨fun o ho => by rw [List.mem_singleton.1 ho]; exact .refl _, _, List.mem_singleton.2 rfl, .tuple #[.bool false], w, ?_, Step.refl hr rfl (SameOut.refl w), LRel.tup (.cons (.bool false) .nil)⟩
    simp only [Instr.next, Sem.run_bind, run_getObj h1 rfl, Result.andThen_ok, run_getObj k1 rfl, hg2, he]
    simp [Question.forced]
  · rename_i hne
    obtain ⟨hlt, he⟩ := cond_some' ha
    cases he
    refine ⟨fun o ho => ?_, ?_⟩
    · obtain ⟨e, _, rfl⟩ := List.mem_map.1 ho
      exact .put hg _
    -- the entry that the model takes
    generalize hD : (ces.filter fun e => !seen.toArray.contains e.born) = D at *
    have hDl : D.toList = ces.toList.filter fun e => !seen.contains e.born := hfil
    have hlen : D.size = (leftM seen es).length := by
      rw [← Array.length_toList, hDl]; exact f1.symm
    have hpos : 0 < D.size := by
      rw [hlen]
      cases hle : leftM seen es with
      | nil => exact absurd hle hne
      | cons _ _ => simp
    have hold : ∀ e ∈ D.toList, e.born < since := fun e hme => by
      obtain ⟨i, hi, hie⟩ := List.getElem_of_mem hme
      have hi2 : i < (leftM seen es).length := by rw [← hlen]; simpa using hi
      have her := f2 i _ e (List.getElem?_eq_getElem hi2) (by rw [← hDl, List.getElem?_eq_getElem hi, hie])
      rw [← her.born]
      exact Nat.le_of_ble_eq_true (List.all_eq_true.1 hlt _ (List.getElem_mem hi2))
    have e1 : D.filter (fun x => decide (x.born < since)) = D := Array.filter_eq_self.2 (fun x hx => by simpa using hold x (by simpa using hx))
    have e2 : D.filter (fun x => decide (x.born ≥ since)) = #[] := by
      rw [Array.filter_eq_empty_iff]
      intro x hx
      have := hold x (by simpa using hx)
      simp
      omega
    have hch : ∃ (j : Nat) (w1 : World), j < D.size ∧ w1.heap = w.heap ∧ SameOut w w1 ∧ (choose (Question.mapNext D.size)).run P w = .ok j w1 := by
      by_cases hf : D.size ≤ 1
      · exact ⟨0, w, hpos, rfl, SameOut.refl w, by simp [choose, Sem.run, Question.forced, hf]⟩
      · exact ⟨w.tape w.drawn (Question.mapNext D.size) % D.size, { w with drawn := w.drawn + 1 }, Nat.mod_lt _ hpos, rfl, ⟨rfl, rfl, rfl⟩, by
          simp only [choose, Sem.run, Question.forced, decide_eq_true_eq, hf, if_false, Question.cut]⟩
    obtain ⟨j, w1, hj, hw1, hs1, hrun⟩ := hch
    have hj2 : j < (leftM seen es).length := by omega
    have her := f2 j _ D[j] (List.getElem?_eq_getElem hj2) (by rw [← hDl, Array.getElem?_toList, Array.getElem?_eq_getElem hj])
    have h1' : w1.heap[bl]? = some (.mapIter (some b) since seen.toArray last) := by rw [hw1]; exact h1
    have s1 : Step P F m h h w w1 m := Step.refl hr hw1 hs1
    refine ⟨_, List.mem_map.2 ⟨(leftM seen es)[j], List.getElem_mem hj2, rfl⟩, .tuple #[.bool true, D[j].key, D[j].val], _, ?_, s1.trans (Step.obj s1.rel hg rfl hm (ob := .mapIter (some b) since (seen.toArray.push D[j].born) clock) ⟨b, y, hmq, by rw [her.born]; simp⟩), LRel.tup (.cons (.bool true) (.cons her.key (.cons her.val .nil)))⟩
    have hnemp : D.isEmpty = false := by show decide (D.size = 0) = false; exact decide_eq_false (by omega)
    simp only [Instr.next, Sem.run_bind, run_getObj h1 rfl, Result.andThen_ok, run_getObj k1 rfl, hg2, hD, e1, e2, Array.append_empty, hnemp, Bool.false_eq_true, if_false, Array.empty_append, Array.size_map]
    simp only [hrun, Array.getElem?_map, Array.getElem?_eq_getElem hj, Option.map_some, Sem.run_bind, run_setObj h1' rfl, Result.andThen_ok]
    rfl
end
end Go.Ax

/- Calls and operations that have several outcomes: one of them is what is. -/
noncomputable section
namespace Go.Ax
section
variable {P : Program} {F : Nat → Option Obj} {gl : Nat → AV} {eqT : Knob} {m : Loc} {N : NK}

theorem anew_le {b : Nat} {h h' h2 : Hp} {v u : AV} (hb : h.nx = b) (hc : anew b v h' = some (u, h2)) : HpLe h h2 := by
  subst hb
  unfold anew at hc
  generalize seekN h' h.nx 4000 (namesV v ++ rootsO h' h.nx) [] = L at hc
  obtain ⟨hL, hc1⟩ := cond_some' hc
  obtain ⟨hL1, hL2⟩ := and_bool hL
  clear hc
  split at hc1
  case h_2 => cases hc1
  rename_i u' t hu ht
  split at hc1
  case h_2 => cases hc1
  rename_i t2 ht2
  cases hc1
  refine ⟨by show h.nx ≤ Nat.add h.nx L.length; exact Nat.le_add_right _ _, Nat.zero_le _, fun r _ h2 => absurd h2 (Nat.not_lt_zero _), fun _ r hr => ?_⟩
  have hr : h.nx + L.length ≤ r := hr
  cases hg : ({ nx := Nat.add h.nx L.length, m := t2, lo := 0 } : Hp).get r with
  | none => rfl
  | some o =>
    rcases newT_get _ _ _ _ ht2 r o hg with h1 | ⟨i, q, s, h1, h2, _⟩
    · rcases oldT_get _ _ _ ht r o h1 with h3 | ⟨h3, _⟩
      · rw [Tr.get_e] at h3; cases h3
      · omega
    · have := (List.getElem?_eq_some_iff.1 h2).1; omega

theorem nextN_le {x : AV} {h : Hp} {L : List (AV × Hp)} (ha : nextN x h = some L) : ∀ o ∈ L, HpLe h o.2 := by
  unfold nextN at ha
  split at ha
  case h_2 => cases ha
  split at ha
  case h_2 => cases ha
  rename_i hg
  split at ha
  case h_2 => cases ha
  rename_i r _ q since seen last _ es clock hgq
  cases hguard : (!seen.isEmpty && (!es.isEmpty && es.all fun e => Nat.ble last e.2.2)) with
  | true => rw [hguard] at ha; cases ha
  | false =>
  rw [hguard, cond_false] at ha
  split at ha
  · cases ha
    intro o ho
    rw [List.mem_singleton.1 ho]; exact .refl _
  · obtain ⟨hlt, he⟩ := cond_some' ha
    cases he
    intro o ho
    obtain ⟨e, _, rfl⟩ := List.mem_map.1 ho
    exact .put hg _

theorem ret_relR (hN : ∀ (f : FuncId) (fn : Func), P.funcs[f]? = some fn → fn.body.isSome = true → (fn.name == "runtime.NumGoroutine") = false) {ih : Code → St → Res} (hih : Sound P F ih) {s : St} {h' : Hp} {fn : Func} {vs : List AV} {m1 : Loc} {h : Hp} {w w1 : World} {a : Act} {n : Nat} {R : Ending → World → Prop} (ha : ARel P F m1 s a) (hs : Step P F m h s.h w w1 m1) (hF : Free m1 s.h h') (hd : runDefs (Ctx.of P gl eqT) ih s.ds s.h = some h') (hres : resultsA (Ctx.of P gl eqT) { s with h := h' } fn.results.toList = some vs)
    (hR : ∀ cv m' w', Step P F m h h' w w' m' → VRel P F m' (tupOf vs) cv → R (.returned cv) w') : LeavesB Fence.wide n P fn a.tmps R a.defers .returning w1 := by
  refine runDefs_rel hN hih s.ds _ s.h h' w1 m1 ha.ds hd hs.rel hF fun w' m' hw' => ?_
  have ht : ∀ t, VRel P F m' (tget s.tm t) (a.tmps.getD t Go.undef) := fun t => by
    by_cases hlt : t < s.n
    · exact (ha.tm.at' t hlt).mono hw'.le
    · rw [ha.tm.out t (by omega), Array.getD_eq_getD_getElem?, Array.getElem?_eq_none (by rw [ha.tm.size]; omega)]
      exact LRel.tup .nil
  obtain ⟨cv, h1, h2⟩ := results_rel (s := { s with h := h' }) ht hw'.rel hres
  exact ⟨cv, h1, hR cv m' w' (hs.trans hw') h2⟩
/-- A call's end. -/
theorem endN_rel (hP : POk P F gl eqT) {ih : Code → St → Res} (hih : Sound P F ih) {fn : Func} {an kl : Bool} {h : Hp} {x : Ex × St} {l : List (AV × Hp)} (hl : endN (Ctx.of P gl eqT) ih fn an kl h.nx x = some l) (hx : HpLe h x.2.h) :
    (∀ o ∈ l, HpLe h o.2) ∧ ∀ m w n e a w1 R, Fre m h → Post P F m h x.2 w x.1 e a w1 → (∀ o ∈ l, ∀ e w', Heard P F m h o.2 w o.1 e w' → R e w') → bodyPostB Fence.wide n P fn R e a w1 := by
  have fin : ∀ s, finN (Ctx.of P gl eqT) ih fn an kl h.nx s = some l → HpLe h s.h → (∀ o ∈ l, HpLe h o.2) ∧ ∀ m w n a w1 m1 R, Fre m h → Step P F m h s.h w w1 m1 → ARel P F m1 s a → (∀ o ∈ l, ∀ e w', Heard P F m h o.2 w o.1 e w' → R e w') →
      LeavesB Fence.wide n P fn a.tmps R a.defers .returning w1 := fun s hs hle => by
    unfold finN at hs
    split at hs
    case h_2 => cases hs
    rename_i h' hd
    split at hs
    case h_2 => cases hs
    rename_i vs hres
    have hle' := hle.trans (runDefs_le hih _ _ _ hd)
    have plain : l = [(tupOf vs, h')] → (∀ o ∈ l, HpLe h o.2) ∧ ∀ m w n a w1 m1 R, Fre m h → Step P F m h s.h w w1 m1 → ARel P F m1 s a → (∀ o ∈ l, ∀ e w', Heard P F m h o.2 w o.1 e w' → R e w') →
        LeavesB Fence.wide n P fn a.tmps R a.defers .returning w1 := fun e => by
      subst e
      refine ⟨fun o ho => by rw [List.mem_singleton.1 ho]; exact hle', fun m w n a w1 m1 R hF hs ha hR => ret_relR hP.names hih ha hs (Free.after hs hF.to) hd hres fun cv m' w' h3 h4 => ?_⟩
      exact hR _ (List.mem_singleton.2 rfl) _ _ ⟨cv, m', rfl, h3, h4⟩
    cases kl with
    | true =>
      rw [cond_true] at hs
      split at hs
      · rename_i y hy
        obtain ⟨u, h2⟩ := y
        cases hs
        refine ⟨fun o ho => by rw [List.mem_singleton.1 ho]; exact quick_le hle' hy, fun m w n a w1 m1 R hF hs ha hR => ret_relR hP.names hih ha hs (Free.after hs hF.to) hd hres fun cv m' w' h3 h4 => ?_⟩
        obtain ⟨rfl, h5⟩ := quick_rel h3 hy
        exact hR _ (List.mem_singleton.2 rfl) _ _ ⟨cv, m', rfl, h5, h4⟩
      · cases hs; exact plain rfl
    | false =>
    rw [cond_false] at hs
    cases an with
    | false =>
      rw [cond_false] at hs
      cases hs
      refine ⟨fun o ho => by rw [List.mem_singleton.1 ho]; exact hle', fun m w n a w1 m1 R hF hs ha hR => ret_relR hP.names hih ha hs (Free.after hs hF.to) hd hres fun cv m' w' h3 h4 => ?_⟩
      exact hR _ (List.mem_singleton.2 rfl) _ _ ⟨cv, m', rfl, h3, h4⟩
    | true =>
      rw [cond_true] at hs
      split at hs
      · rename_i y hy
        obtain ⟨u, h2⟩ := y
        cases hs
        refine ⟨fun o ho => by rw [List.mem_singleton.1 ho]; exact anew_le rfl hy, fun m w n a w1 m1 R hF hs ha hR => ret_relR hP.names hih ha hs (Free.after hs hF.to) hd hres fun cv m' w' h3 h4 => ?_⟩
        obtain ⟨_, m2, h5, h6⟩ := anew_rel h3 hF h4 hy
        exact hR _ (List.mem_singleton.2 rfl) _ _ ⟨cv, m2, rfl, h5, h6⟩
      · cases hs
        refine ⟨fun o ho => by rw [List.mem_singleton.1 ho]; exact hle', fun m w n a w1 m1 R hF hs ha hR => ret_relR hP.names hih ha hs (Free.after hs hF.to) hd hres fun cv m' w' h3 h4 => ?_⟩
        exact hR _ (List.mem_singleton.2 rfl) _ _ ⟨cv, m', rfl, h3, h4⟩
  unfold endN at hl
  obtain ⟨e0, s⟩ := x
  dsimp only at hl hx ⊢
  cases e0 with
  | normal =>
    obtain ⟨g1, g2⟩ := fin s hl hx
    refine ⟨g1, fun m w n e a w1 R hF hp hR => ?_⟩
    obtain ⟨m1, hxr, hs, ha⟩ := hp
    cases hxr
    exact g2 m w n a w1 m1 R hF hs ha hR
  | ret =>
    obtain ⟨g1, g2⟩ := fin s hl hx
    refine ⟨g1, fun m w n e a w1 R hF hp hR => ?_⟩
    obtain ⟨m1, hxr, hs, ha⟩ := hp
    cases hxr
    exact g2 m w n a w1 m1 R hF hs ha hR
  | exit _ => cases hl
  | goto _ => cases hl
  | panic _ => cases hl

theorem callN_rel (hP : POk P F gl eqT) (hpr : PrN P F N.pr) {ih : Code → St → Res} (hih : Sound P F ih) {ihN : Code → St → Outs} (hN : SoundN P F ihN) {f : FuncId} {args : List AV} {h : Hp} {L : List (AV × Hp)} (hc : callN (Ctx.of P gl eqT) N ih ihN f args h = some L) :
    ∃ fn c, P.funcs[f]? = some fn ∧ fn.body = some c ∧ (∀ o ∈ L, HpLe h o.2) ∧ CallingN P F h L f args := by
  unfold callN at hc
  split at hc
  · rename_i L' hp
    cases hc
    obtain ⟨⟨fn, c, h1, h2⟩, h3, h4⟩ := hpr _ _ _ _ hp
    exact ⟨fn, c, h1, h2, h3, h4⟩
  split at hc
  case h_2 => cases hc
  rename_i fn hf
  have hf := Ctx.of_fn hf
  split at hc
  case h_2 => cases hc
  rename_i c hb
  obtain ⟨hle, hc⟩ := cond_some' hc
  have hle := Nat.le_of_ble_eq_true hle
  split at hc
  case h_2 => cases hc
  rename_i L0 hr
  split at hc
  case h_2 => cases hc
  rename_i o ho
  cases hc
  obtain ⟨g1, g2⟩ := hN _ _ _ hr
  obtain ⟨b1, b2⟩ := bindL_mem ho
  obtain ⟨n1, n2⟩ := nubH_mem (l := o)
  refine ⟨fn, c, hf, hb, fun y hy => ?_, fun m w n cargs hR hA hF => ?_⟩
  · obtain ⟨x, hx, l, hl, hyl⟩ := b2 y (n2 y hy)
    exact (endN_rel hP hih hl (g1 x hx).1).1 y hyl
  · refine callsIn_of_body hf hb trivial (wpIn_mono (g2 m _ w _ n hR ⟨args_rel hA hle, .nil⟩ rfl hF) fun e a' w' hp => ?_)
    obtain ⟨x, hx, hpx⟩ := hp
    obtain ⟨l, hl, hly⟩ := b1 x hx
    exact (endN_rel hP hih hl (g1 x hx).1).2 m w n e a' w' _ hF hpx fun y hy e w' hh => ⟨y, n1 y (hly y hy), hh⟩

/-! ### Operations -/
def ActsN (P : Program) (F : Nat → Option Obj) (m : Loc) (h : Hp) (L : List (AV × Hp)) (w : World) (q : Sem Next) : Prop :=
  (∃ o ∈ L, Acts P F m h o.2 w o.1 q) ∨ (∃ f args, q.run P w = .ok (.enter f args) w ∧ ∀ n, CallsIn Fence.wide n P f args w (fun e w' => ∃ o ∈ L, Heard P F m h o.2 w o.1 e w'))
theorem ActsN.wp {h : Hp} {L : List (AV × Hp)} {w : World} {o : Oper} {a : Act} {fe : Fence} {rd : Option Nat} {n : Nat} {K : Act → World → Prop} {Q : Exit → Act → World → Prop}
    (hd : ActsN P F m h L w (execOp a.eval o)) (hnd : ∀ c, o.op ≠ .defer c) (hf : FenRel m rd fe)
    (hK : ∀ x ∈ L, ∀ m' cv w', Step P F m h x.2 w w' m' → VRel P F m' x.1 cv → K (a.put o.dst cv) w') : o.wpIn fe n P a w K Q := by
  rcases hd with ⟨x, hx, hd⟩ | ⟨f, args, h1, h2⟩
  · exact hd.wp hnd hf (hK x hx)
  · refine ⟨fun f _ => hf.fn f, ?_⟩
    rw [Oper.semAt_eq _ _ _ hnd, h1]
    refine ⟨fun h => (by rw [hf.depth] at h; cases h), ?_⟩
    have h3 : CallsIn fe (n - 1) P f args w (fun e w' => ∃ o ∈ L, Heard P F m h o.2 w o.1 e w') := by
      cases rd with
      | none => cases hf; exact h2 _
      | some l => obtain ⟨_, _, _, rfl⟩ := hf; exact h2 _
    refine h3.mono fun e w' he => ?_
    obtain ⟨x, hx, cv, m', rfl, g1, g2⟩ := he
    exact hK x hx _ _ _ g1 g2

theorem opsN_rel (hP : POk P F gl eqT) (hpr : PrN P F N.pr) {ih : Code → St → Res} (hih : Sound P F ih) {ihN : Code → St → Outs} (hN : SoundN P F ihN) {s : St} {o : Oper} {L : List (AV × Hp)} (ho : opsN P (Ctx.of P gl eqT) N ih ihN s o = some L) :
    (∀ x ∈ L, HpLe s.h x.2) ∧ (∀ c, o.op ≠ .defer c) ∧ ∀ m (a : Act) w, HRel P F m s.h w → TRel P F m s.tm s.n a.tmps → Fre m s.h → ActsN P F m s.h L w (execOp a.eval o) := by
  unfold opsN at ho
  split at ho
  · rename_i d hd
    unfold ndOp at hd
    split at hd
    · rename_i x hop
      cases hd
      unfold opN at ho
      dsimp only at ho
      refine ⟨nextN_le ho, (by rw [hop]; nofun), fun m a w hr ht hF => ?_⟩
      obtain ⟨y, hy, cv, w', q1, q2, q3⟩ := (nextN_rel (ty := o.type) ho (ev_rel hP ht x) hr).2
      refine .inl ⟨y, hy, .inl ?_⟩
      unfold execOp
      rw [hop]
      exact .ofV ⟨cv, w', m, q1, q2, q3⟩
    · rename_i c hop
      split at hd
      case h_2 => cases hd
      rename_i f hcal
      split at hd
      case h_2 => cases hd
      rename_i g first cap hfv
      obtain ⟨_, hd⟩ := cond_some hd
      cases hd
      unfold opN at ho
      dsimp only at ho
      obtain ⟨fn, c', h1, h2, h3, h4⟩ := callN_rel hP hpr hih hN ho
      refine ⟨h3, (by rw [hop]; nofun), fun m a w hr ht hF => ?_⟩
      have hf := ev_rel hP ht f
      rw [hfv] at hf
      obtain ⟨f', x, y, e1, hfn, hx, hy⟩ := hf.fn_inv
      cases hfn
      refine .inr ⟨g, (x ++ c.args.map a.eval) ++ y, ?_, fun n => h4 m w n _ hr ?_ hF⟩
      · unfold execOp
        rw [hop]
        simp only [resolve, hcal, e1]
        show Sem.run P (callFunc g ((x ++ c.args.map a.eval) ++ y)) w = _
        exact callFunc_enter h1 (hP.names g fn h1 (by rw [h2]; rfl)) h2 _ w
      · rw [Array.toList_append, Array.toList_append]
        exact (hx.append (allA_arr (ev_rel hP ht) c.args)).append hy
    · cases hd
  · split at ho
    case h_2 => cases ho
    rename_i v h hop
    cases ho
    have hnd := opA_nd hop nofun
    obtain ⟨v', h', he, q1, q2, q3⟩ := opA_rel hP hih hop hnd
    cases he
    exact ⟨fun x hx => by rw [List.mem_singleton.1 hx]; exact q1, q2, fun m a w hr ht hF => .inl ⟨_, List.mem_singleton.2 rfl, q3 m a w hr ht hF.to⟩⟩

theorem runOpsN_rel (hP : POk P F gl eqT) (hpr : PrN P F N.pr) {ih : Code → St → Res} (hih : Sound P F ih) {ihN : Code → St → Outs} (hN : SoundN P F ihN) {ops : Array Oper} : ∀ (l : List Oper) (i : Nat) (s : St) (L : List (Ex × St)), ops.toList.drop i = l → runOpsN P (Ctx.of P gl eqT) N ih ihN ops.toList l s = some L →
    Kept s L ∧ ∀ m a w fe k (Q : Exit → Act → World → Prop), HRel P F m s.h w → ARel P F m s a → FenRel m s.rd fe → Fre m s.h → (∀ x a' w', PostN P F m s.h L w x a' w' → Q x a' w') →
      wpOpsIn fe k P ops Q (List.range' i l.length) a w
  | [], i, s, L, _, hr => by
    cases hr
    exact ⟨kept_one (.refl _) rfl rfl, fun m a w fe k Q hr ha hf hF hQ => hQ _ _ _ ⟨_, List.mem_singleton.2 rfl, m, .normal, Step.refl hr rfl (SameOut.refl w), ha⟩⟩
  | o :: l, i, s, L, hd, hr => by
    obtain ⟨ho, hd'⟩ := drop_cons hd
    have ho' : ops[i]? = some o := by simpa using ho
    unfold runOpsN at hr
    split at hr
    · cases hr
    · rename_i hw
      split at hr
      case h_2 => cases hr
      rename_i s1 hp
      obtain ⟨p1, p2, p3, p4⟩ := putD_st hp
      obtain ⟨g1, g4⟩ := runOpsN_rel hP hpr hih hN l (i + 1) s1 L hd' hr
      rw [p1, p2] at g4
      refine ⟨fun x hx => by have := g1 x hx; rw [p1, p2, p3] at this; exact this, fun m a w fe k Q hr ha hf hF hQ => ?_⟩
      have hwt := yielded_rel ha hw
      simp only [List.length_cons, List.range'_succ, wpOpsIn, ho', hwt, Bool.false_eq_true, if_false]
      refine ⟨fun f _ => hf.fn f, g4 m _ w fe k Q hr ?_ hf hF hQ⟩
      exact (putD_rel hp ha (undef_rel m)).1
    · rename_i hw
      split at hr
      case h_2 => cases hr
      rename_i outs hop
      obtain ⟨q1, q2, q3⟩ := opsN_rel hP hpr hih hN hop
      obtain ⟨b1, b2⟩ := bindL_mem hr
      have each : ∀ x ∈ outs, ∃ s' L', putD s o.dst x.1 x.2 = some s' ∧ runOpsN P (Ctx.of P gl eqT) N ih ihN ops.toList l s' = some L' ∧ ∀ y ∈ L', y ∈ L := fun x hx => by
        obtain ⟨L', hl, hm⟩ := b1 x hx
        split at hl
        case h_2 => cases hl
        rename_i s' hs'
        exact ⟨s', L', hs', hl, hm⟩
      refine ⟨fun y hy => ?_, fun m a w fe k Q hr ha hf hF hQ => ?_⟩
      · obtain ⟨x, hx, L', hl, hm⟩ := b2 y hy
        split at hl
        case h_2 => cases hl
        rename_i s' hs'
        obtain ⟨p1, p2, p3, p4⟩ := putD_st hs'
        obtain ⟨k1, k2, k3⟩ := (runOpsN_rel hP hpr hih hN l (i + 1) s' L' hd' hl).1 y hm
        rw [p1] at k1
        exact ⟨(q1 x hx).trans k1, k2.trans p2, k3.trans p3⟩
      · have hwt := yielded_rel ha hw
        simp only [List.length_cons, List.range'_succ, wpOpsIn, ho', hwt, if_true]
        refine (q3 m a w hr ha.tm hF).wp q2 hf fun x hx m' cv w' hs hv => ?_
        obtain ⟨s', L', hs', hl, hm⟩ := each x hx
        obtain ⟨p1, p2, p3, p4⟩ := putD_st hs'
        obtain ⟨_, g4⟩ := runOpsN_rel hP hpr hih hN l (i + 1) s' L' hd' hl
        rw [p1, p2] at g4
        exact g4 m' _ w' fe k Q hs.rel (putD_rel hs' (ha.mono hs.le) hv).1 (hf.mono hs.le) (hF.after hs) fun x' a' w'' hp => hQ _ _ _ ((hp.after hs).more hm)
end
end Go.Ax

/- All of code, all outcomes; calls that turn nothing, whatever is drawn. -/
noncomputable section
namespace Go.Ax
section
variable {P : Program} {F : Nat → Option Obj} {gl : Nat → AV} {eqT : Knob} {m : Loc} {N : NK}

theorem rangeFN_rel (hP : POk P F gl eqT) (hpr : PrN P F N.pr) {ih : Code → St → Res} (hih : Sound P F ih) {ihN : Code → St → Outs} (hN : SoundN P F ihN) {g : Operand} {ps : Array Nat} {asn body : Code} {s : St} {L : List (Ex × St)} (h : rangeFN (Ctx.of P gl eqT) N ih ihN g ps.toList asn body s = some L) :
    Kept s L ∧ ∀ m a w fe k, HRel P F m s.h w → ARel P F m s a → FenRel m s.rd fe → Fre m s.h → (Code.rangeFunc g ps asn body).wpIn fe k P (PostN P F m s.h L w) a w := by
  unfold rangeFN at h
  split at h
  · cases h
  rename_i hrd
  split at h
  case h_2 => cases h
  rename_i f first cap hg
  split at h
  case h_2 => cases h
  rename_i outs hcall
  obtain ⟨fn, c, c1, c2, c3, c4⟩ := callN_rel hP hpr hih hN hcall
  obtain ⟨b1, b2⟩ := bindL_mem h
  have after : ∀ o L', afterN s (Nat.succ s.h.nx) s.h.nx o = some L' → ∃ tm n ps' asn' b' ds', o.2.get (s.h.nx + 1) = some (.loop .ready none tm n ps' asn' b' ds') ∧
      L' = [(.normal, ({ s with h := o.2.put (s.h.nx + 1) .dead, ds := .coll s.h.nx :: s.ds } : St))] := fun o L' ho => by
    unfold afterN at ho
    split at ho
    case h_2 => cases ho
    rename_i tm n ps' asn' b' ds' hg3
    cases ho
    exact ⟨_, _, _, _, _, _, hg3, rfl⟩
  refine ⟨fun y hy => ?_, fun m a w fe k hr ha hf hF => ?_⟩
  · obtain ⟨o, ho, L', hL', hm⟩ := b2 y hy
    obtain ⟨tm, n, ps', asn', b', ds', hg3, rfl⟩ := after o L' hL'
    rw [List.mem_singleton.1 hm]
    exact ⟨((HpLe.new _ _).trans (HpLe.new _ _)).trans ((c3 o ho).trans (HpLe.put hg3 _)), rfl, rfl⟩
  rw [hrd] at hf
  cases hf
  have n0 : m s.h.nx = none := hF _ (Nat.le_refl _)
  refine wpIn_rangeFunc fun fnn _ => ?_
  have s1 : Step P F m s.h (s.h.new (.defd (some []))) w { w with heap := w.heap.push (.deferred (some [])) } (m.put s.h.nx w.heap.size 0) :=
    Step.alloc hr n0 (z := 0) rfl ⟨rfl, rfl, rfl⟩ (.inl ⟨rfl, rfl⟩)
  have n1 : (m.put s.h.nx w.heap.size 0) (s.h.nx + 1) = none := by
    rw [Loc.put_ne _ _ _ (by omega)]
    exact hF _ (Nat.le_succ _)
  have le1 := s1.le
  have s2 : Step P F (m.put s.h.nx w.heap.size 0) (s.h.new (.defd (some []))) ((s.h.new (.defd (some []))).new (.loop .ready none s.tm s.n ps.toList asn body s.h.nx)) { w with heap := w.heap.push (.deferred (some [])) }
      { w with heap := (w.heap.push (.deferred (some []))).push (.loop { state := .ready, pending := none, fn := fnn, tmps := a.tmps, params := ps, assign := asn, body := body, defers := w.heap.size }) }
      ((m.put s.h.nx w.heap.size 0).put (s.h.nx + 1) (w.heap.push (.deferred (some []))).size 0) := by
    refine Step.alloc s1.rel n1 (z := 0) rfl ⟨rfl, rfl, rfl⟩ ⟨fnn, a.tmps, w.heap.size, 0, by simp, ?_, ?_⟩
    · exact (ha.tm.mono le1).mono (Loc.le_put n1)
    · rw [Loc.put_ne _ _ _ (by show s.h.nx ≠ s.h.nx + 1; omega)]; exact Loc.put_same _ _ _ _
  have s12 := s1.trans s2
  generalize hm2 : (m.put s.h.nx w.heap.size 0).put (s.h.nx + 1) (w.heap.push (.deferred (some []))).size 0 = m2 at s2 s12
  have md : m2 s.h.nx = some (w.heap.size, 0) := by rw [← hm2, Loc.put_ne _ _ _ (by omega)]; exact Loc.put_same _ _ _ _
  have ml : m2 (s.h.nx + 1) = some ((w.heap.push (.deferred (some []))).size, 0) := by rw [← hm2]; exact Loc.put_same _ _ _ _
  have hgv := ev_rel hP (ha.tm.mono s12.le) g
  rw [hg] at hgv
  obtain ⟨f', x, y, e1, e2, e3, e4⟩ := hgv.fn_inv
  cases e2
  refine ⟨(w.heap.push (.deferred (some []))).size, [{ target := .collected w.heap.size, args := #[] }],
    { w with heap := (w.heap.push (.deferred (some []))).push (.loop { state := .ready, pending := none, fn := fnn, tmps := a.tmps, params := ps, assign := asn, body := body, defers := w.heap.size }) },
    { target := .fn (.func f) y, args := x ++ #[.func (.yield (w.heap.push (.deferred (some []))).size) #[] #[]] },
    { w with heap := (w.heap.push (.deferred (some []))).push (.loop { state := .ready, pending := none, fn := fnn, tmps := a.tmps, params := ps, assign := asn, body := body, defers := w.heap.size }) },
    f, (x ++ #[.func (.yield (w.heap.push (.deferred (some []))).size) #[] #[]]) ++ y,
    { w with heap := (w.heap.push (.deferred (some []))).push (.loop { state := .ready, pending := none, fn := fnn, tmps := a.tmps, params := ps, assign := asn, body := body, defers := w.heap.size }) },
    rfl, ?_, fun _ _ => trivial, ?_, nofun, ?_⟩
  · unfold resolve
    simp only [e1]
    simp [Deferred.ofValue, Act.eval]
  · exact callFunc_enter c1 (hP.names f fn c1 (by rw [c2]; rfl)) c2 _ _
  · have hF2 : Fre m2 ((s.h.new (.defd (some []))).new (.loop .ready none s.tm s.n ps.toList asn body s.h.nx)) := hF.after s12
    have hargs : LRel P F m2 (first ++ [.fn (.yield (s.h.nx + 1)) [] []] ++ cap) ((x ++ #[Value.func (.yield (w.heap.push (.deferred (some []))).size) #[] #[]]) ++ y).toList := by
      rw [Array.toList_append, Array.toList_append]
      refine (e3.append (.cons ?_ .nil)).append e4
      exact .fn (a := #[]) (c := #[]) (.yield ml) rfl (fun i x y h _ => by simp at h) rfl (fun i x y h _ => by simp at h)
    refine (c4 m2 _ (k - 1) _ s12.rel hargs hF2).mono fun e w3 he => ?_
    obtain ⟨o, ho, cv, m3, rfl, hs3, _⟩ := he
    obtain ⟨L', hL', hm⟩ := b1 o ho
    obtain ⟨tm, n, ps', asn', b', ds', hg3, rfl⟩ := after o L' hL'
    have ml3 := hs3.le _ _ ml
    have md3 := hs3.le _ _ md
    obtain ⟨fn3, tmps3, cds3, zd3, g1, g2, g3⟩ := loop_at hs3.rel hg3 ml3
    have hs4 := Step.obj hs3.rel hg3 rfl ml3 (o := .dead) (ob := .loop { state := .exhausted, pending := none, fn := fn3, tmps := tmps3, params := ps'.toArray, assign := asn', body := b', defers := cds3 }) trivial
    have hall := (s12.trans hs3).trans hs4
    have hA : ARel P F m3 { s with h := o.2.put (s.h.nx + 1) .dead, ds := .coll s.h.nx :: s.ds } { a with defers := [{ target := .collected w.heap.size, args := #[] }] ++ a.defers } :=
      ⟨(ha.tm.mono s12.le).mono hs3.le, .cons (.coll md3) ((ha.ds.mono s12.le).mono hs3.le)⟩
    exact ⟨none, _, run_endLoop g1 nofun, _, hm _ (List.mem_singleton.2 rfl), m3, .normal, hall, hA⟩

theorem goN_mem {ihN : Code → St → Outs} {c : Code} {L K : List (Ex × St)} (h : bindL (goN ihN c) L = some K) :
    (∀ s, (Ex.normal, s) ∈ L → ∃ L', ihN c s = some L' ∧ ∀ y ∈ L', y ∈ K) ∧ (∀ e s, (e, s) ∈ L → e ≠ .normal → (e, s) ∈ K) ∧ ∀ y ∈ K, (∃ s L', (Ex.normal, s) ∈ L ∧ ihN c s = some L' ∧ y ∈ L') ∨ y ∈ L := by
  obtain ⟨b1, b2⟩ := bindL_mem h
  refine ⟨fun s hs => ?_, fun e s hs hne => ?_, fun y hy => ?_⟩
  · obtain ⟨L', hL, hm⟩ := b1 _ hs
    exact ⟨L', hL, hm⟩
  · obtain ⟨L', hL, hm⟩ := b1 _ hs
    unfold goN at hL
    cases e <;> first
      | exact absurd rfl hne
      | (cases hL; exact hm _ (List.mem_singleton.2 rfl))
  · obtain ⟨x, hx, L', hL, hm⟩ := b2 y hy
    obtain ⟨e, s⟩ := x
    unfold goN at hL
    cases e with
    | normal => exact .inl ⟨s, L', hx, hL, hm⟩
    | _ => cases hL; rw [List.mem_singleton.1 hm]; exact .inr hx

/-- Some states, each standing for what the machine may be in: the loop's end. -/
theorem loopB_rel {ihN : Code → St → Outs} (hN : SoundN P F ihN) {q : Option Cut} {c : Code} : ∀ (k : Nat) (cur : List St) (don L : List (Ex × St)), loopB (ihN c) q k cur don = some L →
    (∀ x ∈ don, x ∈ L) ∧ (∀ R : Ex × St → Prop, (∀ x y, Les x y → R x → R y) → (∀ s ∈ cur, R (.normal, s)) → (∀ x ∈ don, R x) → (∀ s L', R (.normal, s) → ihN c s = some L' → ∀ y ∈ L', R y) → ∀ x ∈ L, R x) ∧
    ∀ s ∈ cur, ∀ m a w fe j, HRel P F m s.h w → ARel P F m s a → FenRel m s.rd fe → Fre m s.h → wpLoop fe j P (.inLoop c) c (PostN P F m s.h L w) a w
  | 0, cur, don, L, h => by cases h
  | k + 1, cur, don, L, h => by
    rw [loopB_succ] at h
    split at h
    · cases h
      exact ⟨fun _ h => h, fun R _ _ h _ => h, fun s hs => by cases hs⟩
    · split at h
      case h_2 => cases h
      rename_i L1 hL1
      obtain ⟨b1, b2⟩ := bindL_mem hL1
      obtain ⟨c1, c2⟩ := cutN_mem (q := q) (L := L1)
      obtain ⟨i1, i2, i3⟩ := loopB_rel hN k _ _ L h
      refine ⟨fun x hx => i1 x (List.mem_append.2 (.inr hx)), fun R hR hcur hdon hst => ?_, fun s hs m a w fe j hr ha hfe hF => ?_⟩
      · have hL : ∀ y ∈ cutN q L1, R y := fun y hy => by
          obtain ⟨x, hx, hl⟩ := c2 y hy
          obtain ⟨s, hs, L', h1, h2⟩ := b2 x hx
          exact hR x y hl (hst s L' (hcur s hs) h1 x h2)
        refine i2 R hR (fun s hs => hL _ (normS_mem.1 hs)) (fun x hx => ?_) hst
        rcases List.mem_append.1 hx with h1 | h1
        · exact hL x (othS_mem.1 h1).1
        · exact hdon x h1
      · obtain ⟨Ls, hLs, hsub⟩ := b1 s hs
        obtain ⟨g1, g2⟩ := hN _ _ _ hLs
        refine wpLoop_step (wpIn_mono (g2 m a w fe j hr ha hfe hF) fun x a' w' hp => ?_)
        obtain ⟨o, ho, m', hx, hs', ha'⟩ := hp
        obtain ⟨y, hy, hl⟩ := c1 o (hsub o ho)
        obtain ⟨hs2, ha2⟩ := hl.rel hs' ha'
        obtain ⟨e1, s1⟩ := o
        obtain ⟨e2, s2⟩ := y
        have he : e2 = e1 := hl.e
        subst he
        have other : e2 ≠ .normal → PostN P F m s.h L w x a' w' := fun hne => ⟨(e2, s2), i1 _ (List.mem_append.2 (.inl (othS_mem.2 ⟨hy, hne⟩))), m', hx, hs2, ha2⟩
        cases hx with
        | normal =>
          have := i3 s2 (normS_mem.2 hy) m' a' w' fe j hs2.rel ha2 (by rw [show s2.rd = s1.rd from hl.rd, (g1 _ ho).2.1]; exact hfe.mono hs2.le) (hF.after hs2)
          intro b K cs hro hb hrm
          obtain ⟨e2, a2, w2, hq, harr⟩ := this b K cs hro hb hrm
          exact ⟨e2, a2, w2, hq.after hs2, harr⟩
        | goto l => exact other nofun
        | exit id => exact other nofun
        | ret => exact other nofun
        | panic hv => exact other nofun

/-- What a list of outcomes comes to behind code b. -/
structure Then (P : Program) (F : Nat → Option Obj) (ihN : Code → St → Outs) (b : Code) (L K : List (Ex × St)) : Prop where
  inv : ∀ R : Ex × St → Prop, (∀ x y, Les x y → R x → R y) → (∀ x ∈ L, R x) → (∀ c s L', R (.normal, s) → ihN c s = some L' → ∀ y ∈ L', R y) → ∀ x ∈ K, R x
  oth : ∀ x ∈ L, x.1 ≠ .normal → ∃ y ∈ K, Les x y
  wp : ∀ s, (Ex.normal, s) ∈ L → ∀ m a w fe k, HRel P F m s.h w → ARel P F m s a → FenRel m s.rd fe → Fre m s.h → b.wpIn fe k P (PostN P F m s.h K w) a w
theorem go_then {ihN : Code → St → Outs} (hN : SoundN P F ihN) {b : Code} {L K : List (Ex × St)} (h : bindL (goN ihN b) L = some K) : Then P F ihN b L K := by
  obtain ⟨n1, n2, n3⟩ := goN_mem h
  refine ⟨fun R hR hL hst y hy => ?_, fun x hx hne => ⟨x, n2 _ _ hx hne, .refl x⟩, fun s hs m a w fe k hr ha hfe hF => ?_⟩
  · rcases n3 y hy with ⟨s, L', h1, h2, h3⟩ | h1
    · exact hst b s L' (hL _ h1) h2 y h3
    · exact hL y h1
  · obtain ⟨L', h1, h2⟩ := n1 s hs
    exact wpIn_mono ((hN _ _ _ h1).2 m a w fe k hr ha hfe hF) fun x a' w' hp => hp.more h2
theorem thenN_then {ihN : Code → St → Outs} (hN : SoundN P F ihN) {n : Nat} {b : Code} {L K : List (Ex × St)} (h : thenN N n ihN b L = some K) : Then P F ihN b L K := by
  unfold thenN at h
  split at h
  · rename_i b1 b2
    split at h
    · rename_i q hq
      split at h
      case h_2 => cases h
      rename_i L2 h2
      have T1 := go_then hN h2
      obtain ⟨n1, n2, n3⟩ := goN_mem h2
      have T2 := go_then hN h
      obtain ⟨c1, c2⟩ := cutN_mem (q := some q) (L := L2)
      refine ⟨fun R hR hL hst y hy => T2.inv R hR (fun z hz => ?_) hst y hy, fun x hx hne => ?_, fun s hs m a w fe k hr ha hfe hF => ?_⟩
      · obtain ⟨o, ho, hl⟩ := c2 z hz
        exact hR o z hl (T1.inv R hR hL hst o ho)
      · obtain ⟨z, hz, hl⟩ := c1 x (n2 _ _ hx hne)
        obtain ⟨y, hy, hl2⟩ := T2.oth z hz (by rw [hl.e]; exact hne)
        exact ⟨y, hy, hl.trans hl2⟩
      · obtain ⟨L', h3, h4⟩ := n1 s hs
        obtain ⟨g1, g2⟩ := hN _ _ _ h3
        refine wpIn_seq (wpIn_mono (g2 m a w fe k hr ha hfe hF) fun x a' w' hp => ?_)
        obtain ⟨o, ho, m', hx, hs', ha'⟩ := hp
        obtain ⟨z, hz, hl⟩ := c1 o (h4 o ho)
        obtain ⟨hs, ha2⟩ := hl.rel hs' ha'
        obtain ⟨e0, s0⟩ := o
        obtain ⟨e1, s1⟩ := z
        have he : e1 = e0 := hl.e
        subst he
        have other : e1 ≠ .normal → XRel P F m' e1 x → PostN P F m s.h K w x a' w' := fun hne hx => by
          obtain ⟨y, hy, hl2⟩ := T2.oth _ hz hne
          obtain ⟨q1, q2⟩ := hl2.rel hs ha2
          obtain ⟨e2, s2⟩ := y
          have he : e2 = e1 := hl2.e
          subst he
          exact ⟨_, hy, m', hx, q1, q2⟩
        cases hx with
        | normal =>
          exact wpIn_mono (T2.wp s1 hz m' a' w' fe k hs.rel ha2 (by rw [show s1.rd = s0.rd from hl.rd, (g1 _ ho).2.1]; exact hfe.mono hs.le) (hF.after hs)) fun x a'' w'' hp => hp.after hs
        | goto l => exact other nofun (.goto l)
        | exit id => exact other nofun (.exit id)
        | ret => exact other nofun .ret
        | panic hv => exact other nofun (.panic hv)
    · exact go_then hN h
  · exact go_then hN h

theorem stepN_rel (hP : POk P F gl eqT) (hpr : PrN P F N.pr) {ih : Code → St → Res} (hih : Sound P F ih) (hd : DrawS P F (Ctx.of P gl eqT) ih) {ihN : Code → St → Outs} (hN : SoundN P F ihN) (hl : LoopSN P F ihN) :
    SoundN P F (stepN P (Ctx.of P gl eqT) N ih ihN) ∧ LoopSN P F (stepN P (Ctx.of P gl eqT) N ih ihN) := by
  have loop : ∀ c s L, stepN P (Ctx.of P gl eqT) N ih ihN (.loop c) s = some L → Kept s L ∧ ∀ m a w fe k, HRel P F m s.h w → ARel P F m s a → FenRel m s.rd fe → Fre m s.h → wpLoop fe k P (.inLoop c) c (PostN P F m s.h L w) a w := by
    intro c s L h
    unfold stepN at h
    dsimp only at h
    split at h
    · obtain ⟨i1, i2, i3⟩ := loopB_rel hN 200 _ _ L h
      refine ⟨?_, fun m a w fe k hr ha hfe hF => i3 s (List.mem_singleton.2 rfl) m a w fe k hr ha hfe hF⟩
      refine i2 (fun x => HpLe s.h x.2.h ∧ x.2.rd = s.rd ∧ x.2.n = s.n) (fun x y hl h => ⟨hl.le _ h.1, hl.rd.trans h.2.1, hl.n.trans h.2.2⟩) (fun u hu => ?_) (fun x hx => by cases hx) fun u L' hu hL' y hy => ?_
      · rw [List.mem_singleton.1 hu]; exact ⟨.refl _, rfl, rfl⟩
      · obtain ⟨q1, q2, q3⟩ := (hN _ _ _ hL').1 y hy
        exact ⟨hu.1.trans q1, q2.trans hu.2.1, q3.trans hu.2.2⟩
    split at h
    case h_2 => cases h
    rename_i L0 h0
    obtain ⟨g1, g2⟩ := hN _ _ _ h0
    obtain ⟨n1, n2, n3⟩ := goN_mem h
    refine ⟨fun y hy => ?_, fun m a w fe k hr ha hfe hF => wpLoop_step (wpIn_mono (g2 m a w fe k hr ha hfe hF) fun x a' w' hp => ?_)⟩
    · rcases n3 y hy with ⟨s1, L', h1, h2, h3⟩ | h1
      · obtain ⟨p1, p2, p3⟩ := g1 _ h1
        obtain ⟨q1, q2, q3⟩ := (hN _ _ _ h2).1 y h3
        exact ⟨p1.trans q1, q2.trans p2, q3.trans p3⟩
      · exact g1 y h1
    · obtain ⟨o, ho, m', hx, hs, ha'⟩ := hp
      obtain ⟨e1, s1⟩ := o
      have other : e1 ≠ .normal → PostN P F m s.h L w x a' w' := fun hne => ⟨_, n2 _ _ ho hne, m', hx, hs, ha'⟩
      cases hx with
      | normal =>
        obtain ⟨L', h2, h3⟩ := n1 s1 ho
        have := hl c s1 L' h2 m' a' w' fe k hs.rel ha' (by rw [(g1 _ ho).2.1]; exact hfe.mono hs.le) (hF.after hs)
        intro b K cs hro hb hrm
        obtain ⟨e2, a2, w2, hq, harr⟩ := this b K cs hro hb hrm
        exact ⟨e2, a2, w2, (hq.after hs).more h3, harr⟩
      | goto l => exact other nofun
      | exit id => exact other nofun
      | ret => exact other nofun
      | panic hv => exact other nofun
  refine ⟨fun c s L h => ?_, fun c s L h => (loop c s L h).2⟩
  cases c with
  | skip => cases h; exact ⟨kept_one (.refl _) rfl rfl, fun m a w fe k hr ha hf hF => wpIn_skip ⟨_, List.mem_singleton.2 rfl, m, .normal, Step.refl hr rfl (SameOut.refl w), ha⟩⟩
  | label l => cases h; exact ⟨kept_one (.refl _) rfl rfl, fun m a w fe k hr ha hf hF => wpIn_label ⟨_, List.mem_singleton.2 rfl, m, .normal, Step.refl hr rfl (SameOut.refl w), ha⟩⟩
  | exit id => cases h; exact ⟨kept_one (.refl _) rfl rfl, fun m a w fe k hr ha hf hF => wpIn_exit ⟨_, List.mem_singleton.2 rfl, m, .exit id, Step.refl hr rfl (SameOut.refl w), ha⟩⟩
  | goto l => cases h; exact ⟨kept_one (.refl _) rfl rfl, fun m a w fe k hr ha hf hF => wpIn_goto ⟨_, List.mem_singleton.2 rfl, m, .goto l, Step.refl hr rfl (SameOut.refl w), ha⟩⟩
  | ret => cases h; exact ⟨kept_one (.refl _) rfl rfl, fun m a w fe k hr ha hf hF => wpIn_ret ⟨_, List.mem_singleton.2 rfl, m, .ret, Step.refl hr rfl (SameOut.refl w), ha⟩⟩
  | refuse w => cases h
  | scope c => cases h
  | region id ops draw =>
    unfold stepN at h
    dsimp only at h
    cases draw with
    | true =>
      simp only [cond_true] at h
      split at h
      case h_2 => cases h
      rename_i x hx
      cases h
      obtain ⟨e, s'⟩ := x
      obtain ⟨g1, g2, g3, g4⟩ := hd ops s e s' hx
      exact ⟨kept_one g1 g2 g3, fun m a w fe k hr ha hf hF => wpIn_mono (g4 m a w fe k id hr ha hf hF.to) fun x a' w' hp => ⟨_, List.mem_singleton.2 rfl, hp⟩⟩
    | false =>
      simp only [cond_false] at h
      obtain ⟨g1, g4⟩ := runOpsN_rel hP hpr hih hN ops.toList 0 s L rfl h
      refine ⟨g1, fun m a w fe k hr ha hf hF => wpIn_region ?_⟩
      have := g4 m a w fe k _ hr ha hf hF (fun _ _ _ hp => hp)
      rw [List.range_eq_range']
      simpa using this
  | seq x y =>
    unfold stepN at h
    dsimp only at h
    split at h
    case h_2 => cases h
    rename_i L0 h0
    obtain ⟨g1, g2⟩ := hN _ _ _ h0
    have T := thenN_then hN h
    obtain ⟨c1, c2⟩ := cutN_mem (q := ctN N s.n y) (L := L0)
    have g1' : Kept s (cutN (ctN N s.n y) L0) := fun z hz => by
      obtain ⟨o, ho, hl⟩ := c2 z hz
      obtain ⟨p1, p2, p3⟩ := g1 o ho
      exact ⟨hl.le _ p1, hl.rd.trans p2, hl.n.trans p3⟩
    refine ⟨fun z hz => ?_, fun m a w fe k hr ha hfe hF => wpIn_seq (wpIn_mono (g2 m a w fe k hr ha hfe hF) fun x a' w' hp => ?_)⟩
    · refine T.inv (fun x => HpLe s.h x.2.h ∧ x.2.rd = s.rd ∧ x.2.n = s.n) (fun x y hl h => ⟨hl.le _ h.1, hl.rd.trans h.2.1, hl.n.trans h.2.2⟩) (fun x hx => g1' x hx) (fun c u L' hu hL' y hy => ?_) z hz
      obtain ⟨q1, q2, q3⟩ := (hN _ _ _ hL').1 y hy
      exact ⟨hu.1.trans q1, q2.trans hu.2.1, q3.trans hu.2.2⟩
    · obtain ⟨o, ho, m', hx, hs', ha'⟩ := hp
      obtain ⟨z, hz, hl⟩ := c1 o ho
      obtain ⟨hs, ha2⟩ := hl.rel hs' ha'
      obtain ⟨e0, s0⟩ := o
      obtain ⟨e1, s1⟩ := z
      have he : e1 = e0 := hl.e
      subst he
      have other : e1 ≠ .normal → XRel P F m' e1 x → PostN P F m s.h L w x a' w' := fun hne hx => by
        obtain ⟨u, hu, hl2⟩ := T.oth _ hz hne
        obtain ⟨q1, q2⟩ := hl2.rel hs ha2
        obtain ⟨e2, s2⟩ := u
        have he : e2 = e1 := hl2.e
        subst he
        exact ⟨_, hu, m', hx, q1, q2⟩
      cases hx with
      | normal =>
        exact wpIn_mono (T.wp s1 hz m' a' w' fe k hs.rel ha2 (by rw [(g1' _ hz).2.1]; exact hfe.mono hs.le) (hF.after hs)) fun x a'' w'' hp => hp.after hs
      | goto l => exact other nofun (.goto l)
      | exit id => exact other nofun (.exit id)
      | ret => exact other nofun .ret
      | panic hv => exact other nofun (.panic hv)
  | cond x p q =>
    unfold stepN at h
    dsimp only at h
    split at h
    · rename_i hx
      obtain ⟨g1, g4⟩ := hN _ _ _ h
      refine ⟨g1, fun m a w fe k hr ha hfe hF => ?_⟩
      have hev := ev_rel hP ha.tm x
      rw [hx] at hev
      exact wpIn_cond_true hev.bool_inv (g4 m a w fe k hr ha hfe hF)
    · rename_i hx
      obtain ⟨g1, g4⟩ := hN _ _ _ h
      refine ⟨g1, fun m a w fe k hr ha hfe hF => ?_⟩
      have hev := ev_rel hP ha.tm x
      rw [hx] at hev
      exact wpIn_cond_false hev.bool_inv (g4 m a w fe k hr ha hfe hF)
    · cases h
  | block id x =>
    unfold stepN at h
    dsimp only at h
    split at h
    case h_2 => cases h
    rename_i L0 h0
    cases h
    obtain ⟨g1, g2⟩ := hN _ _ _ h0
    have bk : ∀ o : Ex × St, (blkN id o).2 = o.2 := fun o => by
      unfold blkN
      split
      · rename_i j hj
        cases Nat.beq j id <;> rfl
      · rfl
    refine ⟨fun y hy => ?_, fun m a w fe k hr ha hfe hF => wpIn_block (wpIn_mono (g2 m a w fe k hr ha hfe hF) fun x a' w' hp => ?_)⟩
    · obtain ⟨o, ho, rfl⟩ := List.mem_map.1 hy
      rw [bk]; exact g1 o ho
    · obtain ⟨o, ho, m', hx, hs, ha'⟩ := hp
      obtain ⟨e1, s1⟩ := o
      have hmem : blkN id (e1, s1) ∈ L0.map (blkN id) := List.mem_map.2 ⟨_, ho, rfl⟩
      cases hx with
      | exit j =>
        cases hj : Nat.beq j id with
        | true =>
          have hb : blkN id (Ex.exit j, s1) = (Ex.normal, s1) := by unfold blkN; dsimp only; rw [hj]; rfl
          rw [hb] at hmem
          have hj := Nat.eq_of_beq_eq_true hj
          simp only [Exit.inBlock, hj, if_true]
          exact ⟨_, hmem, m', .normal, hs, ha'⟩
        | false =>
          have hb : blkN id (Ex.exit j, s1) = (Ex.exit j, s1) := by unfold blkN; dsimp only; rw [hj]; rfl
          rw [hb] at hmem
          have hj : ¬ j = id := fun e => by subst e; rw [Nat.beq_refl] at hj; cases hj
          simp only [Exit.inBlock, hj, if_false]
          exact ⟨_, hmem, m', .exit j, hs, ha'⟩
      | goto l => exact ⟨_, hmem, m', .goto l, hs, ha'⟩
      | normal => exact ⟨_, hmem, m', .normal, hs, ha'⟩
      | ret => exact ⟨_, hmem, m', .ret, hs, ha'⟩
      | panic hv => exact ⟨_, hmem, m', .panic hv, hs, ha'⟩
  | loop c =>
    obtain ⟨g1, g4⟩ := loop c s L h
    exact ⟨g1, fun m a w fe k hr ha hf hF => wpLoop_loop (g4 m a w fe k hr ha hf hF)⟩
  | rangeFunc g ps asn body =>
    unfold stepN at h
    dsimp only at h
    exact rangeFN_rel hP hpr hih hN h

theorem execN_rel (hP : POk P F gl eqT) (hpr : PrN P F N.pr) : ∀ n, SoundN P F (execN P (Ctx.of P gl eqT) N n) ∧ LoopSN P F (execN P (Ctx.of P gl eqT) N n)
  | 0 => ⟨(fun c s L h => by cases h), (fun c s L h => by cases h)⟩
  | n + 1 => stepN_rel hP hpr (exec_sound hP n) (draw_rel hP _ (exec_sound hP n)) (execN_rel hP hpr n).1 (execN_rel hP hpr n).2

/-- Do all outcomes come to one answer? -/
def allOk (k : Nat) (v' : AV) : List (AV × Hp) → Bool
  | [] => true
  | o :: l => (match frzV k o.2 o.1 with | some u => eqV u v' | none => false) && allOk k v' l
theorem allOk_at {k : Nat} {v' : AV} : ∀ {L : List (AV × Hp)}, allOk k v' L = true → ∀ o ∈ L, frzV k o.2 o.1 = some v'
  | [], _, o, ho => by cases ho
  | x :: l, h, o, ho => by
    unfold allOk at h
    obtain ⟨h1, h2⟩ := and_bool h
    rcases List.mem_cons.1 ho with rfl | ho
    · split at h1
      · rename_i u hu
        rw [hu, eqV_eq _ _ h1]
      · cases h1
    · exact allOk_at h2 o ho
/-- A call, whatever is drawn: all its outcomes. -/
def callAll (P : Program) (C : Ctx) (N : NK) (n : Nat) (f : FuncId) (args : List AV) : Option (List (AV × Hp)) := callN C N (exec P C n) (execN P C N n) f args h0
def pureOkN (k : Nat) (v' : AV) : Option (List (AV × Hp)) → Bool
  | some L => allOk k v' L
  | none => false
theorem pure_of_all (hP : POk P F gl eqT) (hpr : PrN P F N.pr) {n k : Nat} {f : FuncId} {args : List AV} {v' : AV} (hn : noRefs args = true) (hc : pureOkN k v' (callAll P (Ctx.of P gl eqT) N n f args) = true) : PureC P F f args v' := by
  intro m w j cargs hfr hA
  unfold pureOkN at hc
  split at hc
  case h_2 => cases hc
  rename_i L hL
  obtain ⟨_, _, _, _, _, hcall⟩ := callN_rel hP hpr (exec_sound hP n) (execN_rel hP hpr n).1 hL
  have no : ∀ r o, ¬ h0.get r = some o := fun r o hg => by
    have : h0.get r = none := Tr.get_e r
    rw [this] at hg; cases hg
  refine (hcall ⟨fun _ => none, m.fz⟩ w j cargs (hrel0 hfr) (hA.unref (fun _ _ h => h) hn) (fun _ _ => rfl)).mono fun e w' he => ?_
  obtain ⟨o, ho, cv, m', rfl, hs, hrel⟩ := he
  have hv := allOk_at hc o ho
  have fb : ∀ b o, m.fz b = some o → b < w.heap.size := fun b o hb => (Array.getElem?_eq_some_iff.1 (hfr b o (.inr hb))).1
  let fz : Nat → Option Obj := fun b => if b < w.heap.size then m.fz b else w'.heap[b]?
  have h1 : ∀ b o, m'.fz b = some o → fz b = some o := fun b o hb => by
    rcases hs.fnew b o hb with h | h | ⟨s, q, y, hg, _⟩
    · have := fb b o h
      show (if b < w.heap.size then m.fz b else w'.heap[b]?) = some o
      rw [if_pos this]; exact h
    · show (if b < w.heap.size then m.fz b else w'.heap[b]?) = some o
      rw [if_neg (by omega)]; exact hs.rel.frz b o (.inr hb)
    · exact absurd hg (no s q)
  refine ⟨cv, fz, rfl, hs.same, hs.size, fun b hb => hs.old b hb fun r o z hg => absurd hg (no r o), fun b o hb => ?_, fun b o hb => ?_, fun b o hb => ?_, frzV_rel hs.rel h1 (fun r o b z ob hg hl hm hb => ?_) k o.1 cv v' hrel hv⟩
  · have hb : (if b < w.heap.size then m.fz b else w'.heap[b]?) = some o := hb
    split at hb
    · exact hs.rel.frz b o (.inr (hs.le.frz b o hb))
    · exact hb
  · show (if b < w.heap.size then m.fz b else w'.heap[b]?) = some o
    rw [if_pos (fb b o hb)]; exact hb
  · have hb : (if b < w.heap.size then m.fz b else w'.heap[b]?) = some o := hb
    split at hb
    · exact .inl hb
    · exact .inr (by omega)
  · show (if b < w.heap.size then m.fz b else w'.heap[b]?) = some ob
    rcases hs.mnew r b z hm rfl ⟨o, hg, hl⟩ with h | ⟨s, q, y, hg2, _⟩
    · rw [if_neg (by omega)]; exact hb
    · exact absurd hg2 (no s q)
end
end Go.Ax

/- Calls told with memory: a table of calls' outcomes. -/
noncomputable section
namespace Go.Ax
def eqHp (a b : Hp) : Bool := Nat.beq a.nx b.nx && (Nat.beq a.lo b.lo && eqTr a.m b.m)
abbrev PTab := List (Nat × List AV × Hp × List (AV × Hp))
def prT : PTab → FuncId → List AV → Hp → Option (List (AV × Hp))
  | [], _, _, _ => none
  | e :: l, f, args, h => bif Nat.beq e.1 f && (eqVs e.2.1 args && eqHp e.2.2.1 h) then some e.2.2.2 else prT l f args h
def eqHL : List (AV × Hp) → List (AV × Hp) → Bool
  | [], [] => true
  | a :: l, b :: k => eqH a b && eqHL l k
  | _, _ => false
def toldOk (L : List (AV × Hp)) : Option (List (AV × Hp)) → Bool
  | some k => eqHL k L
  | none => false
theorem eqHp_eq {a b : Hp} (h : eqHp a b = true) : a = b := by
  obtain ⟨h1, m1, l1⟩ := a
  obtain ⟨h2, m2, l2⟩ := b
  unfold eqHp at h
  obtain ⟨g1, h⟩ := and_bool h
  obtain ⟨g2, g3⟩ := and_bool h
  have e1 : h1 = h2 := Nat.eq_of_beq_eq_true g1
  have e2 : l1 = l2 := Nat.eq_of_beq_eq_true g2
  have e3 : m1 = m2 := eqTr_eq g3
  subst e1 e2 e3
  rfl
theorem eqHL_eq : ∀ {a b : List (AV × Hp)}, eqHL a b = true → a = b
  | [], [], _ => rfl
  | x :: l, y :: k, h => by
    unfold eqHL at h
    obtain ⟨h1, h2⟩ := and_bool h
    rw [eqH_eq h1, eqHL_eq h2]
  | [], _ :: _, h => by cases h
  | _ :: _, [], h => by cases h
section
variable {P : Program} {F : Nat → Option Obj} {gl : Nat → AV} {eqT : Knob} {N : NK}
/-- A row of the table is so. -/
def PEnt (P : Program) (F : Nat → Option Obj) (e : Nat × List AV × Hp × List (AV × Hp)) : Prop :=
  (∃ fn c, P.funcs[e.1]? = some fn ∧ fn.body = some c) ∧ (∀ o ∈ e.2.2.2, HpLe e.2.2.1 o.2) ∧ CallingN P F e.2.2.1 e.2.2.2 e.1 e.2.1
def AllPr (P : Program) (F : Nat → Option Obj) (T : PTab) : Prop := ∀ e ∈ T, PEnt P F e
theorem AllPr.nil : AllPr P F [] := fun _ h => by cases h
theorem AllPr.cons {e : Nat × List AV × Hp × List (AV × Hp)} {T : PTab} (h : PEnt P F e) (k : AllPr P F T) : AllPr P F (e :: T) := fun x hx => by
  rcases List.mem_cons.1 hx with rfl | hx
  · exact h
  · exact k x hx
theorem prT_ok {T : PTab} (hT : AllPr P F T) : PrN P F (prT T) := by
  intro f args h L hp
  induction T with
  | nil => cases hp
  | cons e l ih =>
    unfold prT at hp
    cases hb : (Nat.beq e.1 f && (eqVs e.2.1 args && eqHp e.2.2.1 h)) with
    | true =>
      rw [hb] at hp
      cases hp
      obtain ⟨h1, hb⟩ := and_bool hb
      obtain ⟨h2, h3⟩ := and_bool hb
      obtain rfl := Nat.eq_of_beq_eq_true h1
      obtain rfl := eqVs_eq _ _ h2
      obtain rfl := eqHp_eq h3
      exact hT e List.mem_cons_self
    | false =>
      rw [hb] at hp
      exact ih (fun x hx => hT x (List.mem_cons_of_mem _ hx)) hp
/-- Two ways to tell calls. -/
def prOr (a b : FuncId → List AV → Hp → Option (List (AV × Hp))) (f : FuncId) (args : List AV) (h : Hp) : Option (List (AV × Hp)) :=
  match a f args h with
  | some L => some L
  | none => b f args h
theorem prOr_ok {a b : FuncId → List AV → Hp → Option (List (AV × Hp))} (ha : PrN P F a) (hb : PrN P F b) : PrN P F (prOr a b) := fun f args h L hp => by
  unfold prOr at hp
  split at hp
  · rename_i L' h1; cases hp; exact ha _ _ _ _ h1
  · exact hb _ _ _ _ hp
/-- A call with memory, whatever is drawn: all its outcomes. -/
def callAllH (P : Program) (C : Ctx) (N : NK) (n : Nat) (f : FuncId) (args : List AV) (h : Hp) : Option (List (AV × Hp)) := callN C N (exec P C n) (execN P C N n) f args h
theorem pent_of_run (hP : POk P F gl eqT) (hpr : PrN P F N.pr) {n : Nat} {e : Nat × List AV × Hp × List (AV × Hp)} (hc : toldOk e.2.2.2 (callAllH P (Ctx.of P gl eqT) N n e.1 e.2.1 e.2.2.1) = true) : PEnt P F e := by
  unfold toldOk at hc
  split at hc
  case h_2 => cases hc
  rename_i L hL
  obtain rfl := eqHL_eq hc
  obtain ⟨fn, c, h1, h2, h3, hcall⟩ := callN_rel hP hpr (exec_sound hP n) (execN_rel hP hpr n).1 hL
  exact ⟨⟨fn, c, h1, h2⟩, h3, hcall⟩
end
end Go.Ax
