import Derived.Test.YtflfodegogjefaaGreatDoorW05
import Derived.Shelf.SortM.Plain
import Derived.Shelf.SlicesG.CompactI
import Derived.Shelf.SortM.SortNone
set_option linter.unusedSimpArgs false
set_option linter.unusedVariables false
noncomputable section
namespace Go.Ax
open Go.Proofs
variable {es : Nat} {X : Type}
structure Twain (h1 : Hp) (S1 : Nat → Prop) (h2 : Hp) (S2 : Nat → Prop) (σ : Nat → Nat) (U : Nat → Prop) : Prop where
 sub : ∀ r, U r → S1 r
 img : ∀ r, U r → S2 (σ r)
 inj : ∀ r s, U r → U s → σ r = σ s → r = s
 obj : ∀ r, U r → ∃ e cs1 cs2, h1.get r = some (.cells e cs1) ∧ h2.get (σ r) = some (.cells e cs2) ∧ RenL σ U cs1 cs2
def RigV (A B : AV → Asr) : Prop := ∀ v1 h1 S1 v2 h2 S2, A v1 h1 S1 → B v2 h2 S2 → ∃ σ U, Twain h1 S1 h2 S2 σ U ∧ Ren σ U v1 v2
def RigL (A B : List AV → Asr) : Prop := ∀ v1 h1 S1 v2 h2 S2, A v1 h1 S1 → B v2 h2 S2 → ∃ σ U, Twain h1 S1 h2 S2 σ U ∧ RenL σ U v1 v2
def ExV (A : AV → Asr) : Prop := ∀ h : Hp, (∀ r, h.nx ≤ r → h.get r = none) → ∃ v h' S, A v h' S ∧ Wid h h' ∧ (∀ r, h'.nx ≤ r → h'.get r = none) ∧ ∀ s, S s → h.nx ≤ s ∧ s < h'.nx
def ExL (A : List AV → Asr) : Prop := ∀ h : Hp, (∀ r, h.nx ≤ r → h.get r = none) → ∃ v h' S, A v h' S ∧ Wid h h' ∧ (∀ r, h'.nx ≤ r → h'.get r = none) ∧ ∀ s, S s → h.nx ≤ s ∧ s < h'.nx
theorem wf_new {h : Hp} {o : AObj} (hw : ∀ r, h.nx ≤ r → h.get r = none) : ∀ r, (h.new o).nx ≤ r → (h.new o).get r = none := fun r hr => by
 rw [nx_new] at hr
 rw [get_new, if_neg (by omega)]
 exact hw r (by omega)
theorem RenL.flatten {σ : Nat → Nat} {U : Nat → Prop} : ∀ {l k : List (List AV)}, l.length = k.length → (∀ (i : Nat) (x y : List AV), l[i]? = some x → k[i]? = some y → RenL σ U x y) → RenL σ U l.flatten k.flatten
  | [], [], _, _ => .nil
  | [], _ :: _, h, _ => by simp at h
  | _ :: _, [], h, _ => by simp at h
  | x :: l, y :: k, hl, h => by
    simp only [List.flatten_cons]
    exact (h 0 x y rfl rfl).append (RenL.flatten (by simpa using hl) fun i a b ha hb => h (i + 1) a b ha hb)
theorem ArrS.rig {ρ τ : X → List AV → Asr} {eT : TypeId} {xs : Sl X} (hρ : ∀ a ∈ xs.list, RigL (ρ a) (τ a)) : RigV (fun v => ArrS ρ es eT false v xs) (fun v h S => ∃ x, ArrS τ es eT x v xs h S) := by
  intro v1 h1 S1 v2 h2 S2 H1 ⟨x, H2⟩
  cases xs with
  | nil => cases H1; cases H2; exact ⟨id, fun _ => False, ⟨fun _ h => h.elim, fun _ h => h.elim, fun _ _ h => h.elim, fun _ h => h.elim⟩, .bare rfl⟩
  | mk l =>
    obtain ⟨r1, rows1, T1, rfl, a2, a3, a4, a5, a6, a7, a8⟩ := H1
    obtain ⟨r2, rows2, T2, rfl, b2, b3, b4, b5, b6, b7, b8⟩ := H2
    have key : ∀ i : Nat, ∃ (σ : Nat → Nat) (U : Nat → Prop), Twain h1 (T1 i) h2 (T2 i) σ U ∧ ∀ x y, rows1[i]? = some x → rows2[i]? = some y → RenL σ U x y := fun i => by
      by_cases hi : i < l.length
      · obtain ⟨a, ha⟩ := get_of_lt hi
        obtain ⟨x, hx⟩ := get_of_lt (l := rows1) (i := i) (by omega)
        obtain ⟨y, hy⟩ := get_of_lt (l := rows2) (i := i) (by omega)
        obtain ⟨σ, U, hT, hR⟩ := hρ a (List.mem_of_getElem? ha) x h1 (T1 i) y h2 (T2 i) (a8 i a x ha hx) (b8 i a y ha hy)
        exact ⟨σ, U, hT, fun x' y' hx' hy' => by rw [hx] at hx'; rw [hy] at hy'; cases hx'; cases hy'; exact hR⟩
      · exact ⟨id, fun _ => False, ⟨fun _ h => h.elim, fun _ h => h.elim, fun _ _ h => h.elim, fun _ h => h.elim⟩, fun x y hx _ => by have := (List.getElem?_eq_some_iff.1 hx).1; omega⟩
    let σi := fun i => (key i).choose
    let Ui := fun i => (key i).choose_spec.choose
    have ti : ∀ i, Twain h1 (T1 i) h2 (T2 i) (σi i) (Ui i) := fun i => (key i).choose_spec.choose_spec.1
    have ri : ∀ i x y, rows1[i]? = some x → rows2[i]? = some y → RenL (σi i) (Ui i) x y := fun i => (key i).choose_spec.choose_spec.2
    let σ : Nat → Nat := fun r => @dite _ (∃ i, Ui i r) (Classical.propDecidable _) (fun h => σi h.choose r) (fun _ => r2)
    let U : Nat → Prop := fun r => r = r1 ∨ ∃ i, Ui i r
    have hσ : ∀ i r, Ui i r → σ r = σi i r := fun i r hr => by
      have he : ∃ i, Ui i r := ⟨i, hr⟩
      show @dite _ (∃ i, Ui i r) (Classical.propDecidable _) (fun h => σi h.choose r) (fun _ => r2) = _
      rw [dif_pos he]
      rw [a7 _ _ r ((ti _).sub r he.choose_spec) ((ti i).sub r hr)]
    have hn1 : ¬ ∃ i, Ui i r1 := fun ⟨i, hi⟩ => (a6 i r1 ((ti i).sub r1 hi)).2 rfl
    have hσ1 : σ r1 = r2 := by
      show @dite _ (∃ i, Ui i r1) (Classical.propDecidable _) (fun h => σi h.choose r1) (fun _ => r2) = _
      rw [dif_neg hn1]
    have up : ∀ i r, Ui i r → U r ∧ σ r = σi i r := fun i r hr => ⟨.inr ⟨i, hr⟩, hσ i r hr⟩
    refine ⟨σ, U, ⟨fun r hr => ?_, fun r hr => ?_, fun r s hr hs e => ?_, fun r hr => ?_⟩, ?_⟩
    · rcases hr with rfl | ⟨i, hi⟩
      · exact a2
      · exact (a6 i r ((ti i).sub r hi)).1
    · rcases hr with rfl | ⟨i, hi⟩
      · rw [hσ1]; exact b2
      · rw [hσ i r hi]; exact (b6 i _ ((ti i).img r hi)).1
    · rcases hr with rfl | ⟨i, hi⟩ <;> rcases hs with rfl | ⟨j, hj⟩
      · rfl
      · rw [hσ1, hσ j s hj] at e
        exact absurd e.symm (b6 j _ ((ti j).img s hj)).2
      · rw [hσ1, hσ i r hi] at e
        exact absurd e (b6 i _ ((ti i).img r hi)).2
      · rw [hσ i r hi, hσ j s hj] at e
        have h1' := (ti i).img r hi
        have h2' := (ti j).img s hj
        rw [e] at h1'
        obtain rfl := b7 _ _ _ h1' h2'
        exact (ti i).inj r s hi hj e
    · rcases hr with rfl | ⟨i, hi⟩
      · refine ⟨eT, _, _, a3, by rw [hσ1]; exact b3, .flatten (by omega) fun i x y hx hy => (ri i x y hx hy).mono (up i)⟩
      · obtain ⟨e, c1, c2, g1, g2, g3⟩ := (ti i).obj r hi
        exact ⟨e, c1, c2, g1, by rw [hσ i r hi]; exact g2, g3.mono (up i)⟩
    · have := Ren.sl (σ := σ) (U := U) (r := r1) (o := 0) (len := l.length) (cap := l.length) (es := es) (x := false) (x' := x) (.inl rfl) nofun
      rw [hσ1] at this
      exact this
theorem ArrS.ex {ρ : X → List AV → Asr} {eT : TypeId} {x : Bool} {xs : Sl X} (hl : ∀ a row, Locl (ρ a row)) (hs : ∀ a row h S, ρ a row h S → row.length = es) (hρ : ∀ a ∈ xs.list, ExL (ρ a)) : ExV (fun v => ArrS ρ es eT x v xs) := by
  intro h hw
  cases xs with
  | nil => exact ⟨.nilsl, h, fun _ => False, rfl, .refl h, hw, fun _ h => h.elim⟩
  | mk l =>
    have key : ∀ k, k ≤ l.length → ∃ (rows : List (List AV)) (h' : Hp) (Ss : Nat → Nat → Prop), rows.length = k ∧ RowsAt es rows ∧ Wid h h' ∧ (∀ r, h'.nx ≤ r → h'.get r = none) ∧ (∀ i s, Ss i s → h.nx ≤ s ∧ s < h'.nx) ∧ (∀ i j s, Ss i s → Ss j s → i = j) ∧ (∀ i s, Ss i s → i < k) ∧ ∀ i a row, l[i]? = some a → rows[i]? = some row → ρ a row h' (Ss i) := by
      intro k
      induction k with
      | zero => intro _; exact ⟨[], h, fun _ _ => False, rfl, fun c hc => (by cases hc), .refl h, hw, fun _ _ h => h.elim, fun _ _ _ h => h.elim, fun _ _ h => h.elim, fun i a row _ hr => by simp at hr⟩
      | succ k ih =>
        intro hk
        obtain ⟨rows, g, Ss, e1, e2, e3, e4, e5, e6, e6', e7⟩ := ih (by omega)
        obtain ⟨a, ha⟩ := get_of_lt (l := l) (i := k) (by omega)
        obtain ⟨row, g', S, q1, q2, q3, q4⟩ := hρ a (List.mem_of_getElem? ha) g e4
        have hnx := e3.nx
        have hnx' := q2.nx
        refine ⟨rows ++ [row], g', fun i s => if i = k then S s else Ss i s, by simp [e1], fun c hc => ?_, e3.trans q2, q3, fun i s hs => ?_, fun i j s hi hj => ?_, fun i s hs => ?_, fun i b r2 hb hr2 => ?_⟩
        · rcases List.mem_append.1 hc with hc | hc
          · exact e2 c hc
          · rw [List.mem_singleton.1 hc]; exact hs a row g' S q1
        · dsimp only at hs
          split at hs
          · have := q4 s hs; omega
          · have := e5 i s hs; omega
        · dsimp only at hi hj
          split at hi <;> split at hj
          · omega
          · have := q4 s hi; have := e5 j s hj; omega
          · have := q4 s hj; have := e5 i s hi; omega
          · exact e6 i j s hi hj
        · dsimp only at hs
          split at hs
          · omega
          · have := e6' i s hs; omega
        · by_cases hik : i = k
          · subst hik
            rw [List.getElem?_append_right (by omega), e1] at hr2
            simp at hr2
            rw [ha] at hb
            cases hb; subst hr2
            have hq : (fun s => if i = i then S s else Ss i s) = S := funext fun s => by simp
            dsimp only
            rw [hq]; exact q1
          · have hir : i < rows.length := by
              have := (List.getElem?_eq_some_iff.1 hr2).1
              simp at this; omega
            rw [List.getElem?_append_left hir] at hr2
            have hq : (fun s => if i = k then S s else Ss i s) = Ss i := funext fun s => by simp [hik]
            dsimp only
            rw [hq]
            exact hl b r2 _ _ _ _ (e7 i b r2 hb hr2) (fun _ h => h) fun s hs => q2.get s (e5 i s hs).2
    obtain ⟨rows, g, Ss, e1, e2, e3, e4, e5, e6, e6', e7⟩ := key l.length (Nat.le_refl _)
    have hnx := e3.nx
    refine ⟨.sl g.nx 0 l.length l.length es x, g.new (.cells eT rows.flatten), fun s => h.nx ≤ s ∧ s ≤ g.nx, ⟨g.nx, rows, Ss, rfl, ⟨hnx, Nat.le_refl _⟩, by rw [get_new, if_pos rfl], e1, e2, fun i s hs => ?_, e6, fun i a row ha hr => ?_⟩, e3.new _, wf_new e4, fun s hs => by rw [nx_new]; omega⟩
    · have := e5 i s hs; exact ⟨⟨by omega, by omega⟩, by omega⟩
    · exact hl a row _ _ _ _ (e7 i a row ha hr) (fun _ h => h) fun s hs => by rw [get_new, if_neg (by have := e5 i s hs; omega)]
abbrev AnyF : Bool → Prop := fun _ => True
abbrev OffF : Bool → Prop := fun x => x = false
def Emp (fl : Bool → Prop) (v : AV) : Prop := v = .isl [] ∨ (fl true ∧ (v = .nilsl ∨ ∃ r o cap es x, v = .sl r o 0 cap es x))
theorem Emp.len {fl : Bool → Prop} {v : AV} (H : Emp fl v) : lenA v = some 0 ∧ (∀ s, v ≠ .str s) ∧ isCell v = true ∧ cellsOf v = some [v] := by
 rcases H with rfl | ⟨_, rfl | ⟨r, o, cap, es, x, rfl⟩⟩ <;> exact ⟨rfl, nofun, rfl, rfl⟩
theorem Emp.off {v : AV} (H : Emp OffF v) : v = .isl [] := by
 rcases H with h | ⟨h, _⟩
 ·exact h
 ·cases h
theorem Emp.ren {σ : Nat → Nat} {U : Nat → Prop} {v w : AV} (H : Emp OffF v) (K : Emp AnyF w) : Ren σ U v w := by
 rw [H.off]
 rcases K with rfl | ⟨_, rfl | ⟨r, o, cap, es, x, rfl⟩⟩
 ·exact .bare rfl
 ·exact .nil0
 ·exact .sl0
variable {fl : Bool → Prop}
def SlO (fl : Bool → Prop) (ρ : X → List AV → Asr) (es : Nat) (eT : TypeId) (v : AV) (l : List X) (h : Hp) (S : Nat → Prop) : Prop := (l = [] ∧ Emp fl v) ∨ ∃ x, fl x ∧ l ≠ [] ∧ ArrS ρ es eT x v (.mk l) h S
theorem SlO.locl {ρ : X → List AV → Asr} {eT : TypeId} {v : AV} {l : List X} (hρ : ∀ a row, Locl (ρ a row)) : Locl (SlO fl ρ es eT v l) := fun h g S S' H hS hg => by
 rcases H with H | ⟨x, h0, h1, h2⟩
 ·exact .inl H
 ·exact .inr ⟨x, h0, h1, ArrS.locl hρ _ _ _ _ h2 hS hg⟩
theorem SlO.len {ρ : X → List AV → Asr} {eT : TypeId} {v : AV} {l : List X} {h : Hp} {S : Nat → Prop} (H : SlO fl ρ es eT v l h S) : lenA v = some l.length ∧ (∀ s, v ≠ .str s) ∧ isCell v = true ∧ cellsOf v = some [v] := by
 rcases H with ⟨rfl, H⟩ | ⟨x, _, _, H⟩
 ·exact H.len
 ·exact H.len
theorem SlO.none {ρ : X → List AV → Asr} {eT : TypeId} {h : Hp} {S : Nat → Prop} : SlO AnyF ρ es eT .nilsl ([] : List X) h S := .inl ⟨rfl, .inr ⟨trivial, .inl rfl⟩⟩
theorem Twain.nil {h1 h2 : Hp} {S1 S2 : Nat → Prop} : Twain h1 S1 h2 S2 id fun _ => False := ⟨fun _ h => h.elim, fun _ h => h.elim, fun _ _ h => h.elim, fun _ h => h.elim⟩
theorem SlO.rig {ρ τ : X → List AV → Asr} {eT : TypeId} {l : List X} (hρ : ∀ a ∈ l, RigL (ρ a) (τ a)) : RigV (fun v => SlO OffF ρ es eT v l) (fun v => SlO AnyF τ es eT v l) := by
 intro v1 h1 S1 v2 h2 S2 H1 H2
 rcases H1 with ⟨rfl, H1⟩ | ⟨x, h0, hn, H1⟩ <;> rcases H2 with ⟨e2, H2⟩ | ⟨x', _, hn', H2⟩
 ·exact ⟨_, _, .nil, H1.ren H2⟩
 ·exact absurd rfl hn'
 ·exact absurd e2 hn
 ·have h0 : x = false := h0
  subst h0
  exact ArrS.rig (xs := .mk l) hρ v1 h1 S1 v2 h2 S2 H1 ⟨x', H2⟩
theorem SlO.ex {ρ : X → List AV → Asr} {eT : TypeId} {l : List X} (hl : ∀ a row, Locl (ρ a row)) (hs : ∀ a row h S, ρ a row h S → row.length = es) (hρ : ∀ a ∈ l, ExL (ρ a)) : ExV (fun v => SlO OffF ρ es eT v l) := by
 intro h hw
 by_cases hn : l = []
 ·exact ⟨.isl [], h, fun _ => False, .inl ⟨hn, .inl rfl⟩, .refl h, hw, fun _ h => h.elim⟩
 ·obtain ⟨v, h', S, q1, q2, q3, q4⟩ := ArrS.ex (es := es) (eT := eT) (x := false) (xs := .mk l) hl hs hρ h hw
  exact ⟨v, h', S, .inr ⟨false, rfl, hn, q1⟩, q2, q3, q4⟩
def IntO (fl : Bool → Prop) (v : AV) (l : List Int) (h : Hp) (S : Nat → Prop) : Prop := (l = [] ∧ Emp fl v) ∨ ∃ (r : Nat) (x : Bool), fl x ∧ l ≠ [] ∧ v = .sl r 0 l.length l.length 1 x ∧ S r ∧ h.get r = some (.cells T_int (l.map (.int .i64)))
theorem IntO.locl {v : AV} {s : List Int} : Locl (IntO fl v s) := fun h g S S' H hS hg => by
 rcases H with H | ⟨r, x, h0, h1, h2, h3, h4⟩
 ·exact .inl H
 ·exact .inr ⟨r, x, h0, h1, h2, hS r h3, (hg r h3).trans h4⟩
theorem IntO.len {v : AV} {l : List Int} {h : Hp} {S : Nat → Prop} (H : IntO fl v l h S) : lenA v = some l.length ∧ (∀ s, v ≠ .str s) ∧ isCell v = true ∧ cellsOf v = some [v] := by
 rcases H with ⟨rfl, H⟩ | ⟨r, x, _, _, rfl, _⟩
 ·exact H.len
 ·exact ⟨rfl, nofun, rfl, rfl⟩
theorem noRefs_ints (l : List Int) : noRefs (l.map (.int .i64)) = true := by
 induction l with
 | nil => rfl
 | cons a l ih => show (noRef (.int .i64 a) && noRefs (l.map (.int .i64))) = true; rw [ih]; rfl
theorem IntO.rig (s : List Int) : RigV (fun v => IntO OffF v s) (fun v => IntO AnyF v s) := by
 intro v1 h1 S1 v2 h2 S2 H1 H2
 rcases H1 with ⟨rfl, H1⟩ | ⟨r, x, h0, hn, rfl, a3, a4⟩ <;> rcases H2 with ⟨e2, H2⟩ | ⟨r', x', h0', hn', rfl, b3, b4⟩
 ·exact ⟨_, _, .nil, H1.ren H2⟩
 ·exact absurd rfl hn'
 ·exact absurd e2 hn
 ·have h0 : x = false := h0
  subst h0
  refine ⟨fun _ => r', fun s => s = r, ⟨fun s hs => by rw [hs]; exact a3, fun _ _ => b3, fun a b ha hb _ => by rw [ha, hb], fun s hs => ⟨T_int, _, _, by rw [hs]; exact a4, b4, .bare (noRefs_ints _)⟩⟩, ?_⟩
  exact .sl (σ := fun _ => r') (r := r) rfl nofun
theorem IntO.ex (s : List Int) : ExV (fun v => IntO OffF v s) := by
 intro h hw
 by_cases hn : s = []
 ·exact ⟨.isl [], h, fun _ => False, .inl ⟨hn, .inl rfl⟩, .refl h, hw, fun _ h => h.elim⟩
 ·exact ⟨_, h.new (.cells T_int (s.map (.int .i64))), fun s => s = h.nx, .inr ⟨h.nx, false, rfl, hn, rfl, rfl, by rw [get_new, if_pos rfl]⟩, (Wid.refl h).new _, wf_new hw, fun s hs => by rw [hs, nx_new]; omega⟩
def InsO (fl : Bool → Prop) (x : LIns) (row : List AV) (h : Hp) (S : Nat → Prop) : Prop := ∃ va vf Sa Sf, row = [.int .u8 x.op, .int .i64 x.type, .int .i64 x.a, .int .i64 x.b, .int .i64 x.n, va, vf] ∧ IntO fl va x.args.list h Sa ∧ IntO fl vf x.frm.list h Sf ∧ (∀ s, Sa s → S s ∧ ¬ Sf s) ∧ (∀ s, Sf s → S s)
theorem InsO.locl (x : LIns) (row : List AV) : Locl (InsO fl x row) := fun h g S S' ⟨va, vf, Sa, Sf, h1, h2, h3, h4, h5⟩ hS hg =>
 ⟨va, vf, Sa, Sf, h1, IntO.locl _ _ _ _ h2 (fun _ h => h) fun r hr => hg r (h4 r hr).1, IntO.locl _ _ _ _ h3 (fun _ h => h) fun r hr => hg r (h5 r hr), fun s hs => ⟨hS s (h4 s hs).1, (h4 s hs).2⟩, fun s hs => hS s (h5 s hs)⟩
theorem Twain.pair {h1 h2 : Hp} {S1 S2 A1 A2 B1 B2 : Nat → Prop} {σ τ : Nat → Nat} {U V : Nat → Prop} (H : Twain h1 A1 h2 A2 σ U) (K : Twain h1 B1 h2 B2 τ V) (ha1 : ∀ s, A1 s → S1 s ∧ ¬ B1 s) (hb1 : ∀ s, B1 s → S1 s) (ha2 : ∀ s, A2 s → S2 s ∧ ¬ B2 s) (hb2 : ∀ s, B2 s → S2 s) :
  ∃ ρ W, Twain h1 S1 h2 S2 ρ W ∧ (∀ r, U r → W r ∧ ρ r = σ r) ∧ (∀ r, V r → W r ∧ ρ r = τ r) := by
 let ρ : Nat → Nat := fun r => @ite _ (U r) (Classical.propDecidable _) (σ r) (τ r)
 have hU : ∀ r, U r → ρ r = σ r := fun r hr => by
  show @ite _ (U r) (Classical.propDecidable _) (σ r) (τ r) = _
  rw [if_pos hr]
 have hV : ∀ r, V r → ρ r = τ r := fun r hr => by
  show @ite _ (U r) (Classical.propDecidable _) (σ r) (τ r) = _
  rw [if_neg fun hu => (ha1 r (H.sub r hu)).2 (K.sub r hr)]
 have u1 : ∀ r, U r → (U r ∨ V r) ∧ ρ r = σ r := fun r hr => ⟨.inl hr, hU r hr⟩
 have v1 : ∀ r, V r → (U r ∨ V r) ∧ ρ r = τ r := fun r hr => ⟨.inr hr, hV r hr⟩
 refine ⟨ρ, fun r => U r ∨ V r, ⟨fun r hr => ?_, fun r hr => ?_, fun r s hr hs e => ?_, fun r hr => ?_⟩, u1, v1⟩
 ·exact hr.elim (fun h => (ha1 r (H.sub r h)).1) fun h => hb1 r (K.sub r h)
 ·rcases hr with h | h
  ·rw [hU r h]; exact (ha2 _ (H.img r h)).1
  ·rw [hV r h]; exact hb2 _ (K.img r h)
 ·rcases hr with h | h <;> rcases hs with k | k
  ·rw [hU r h, hU s k] at e; exact H.inj r s h k e
  ·rw [hU r h, hV s k] at e
   exact absurd (K.img s k) (e ▸ (ha2 _ (H.img r h)).2)
  ·rw [hV r h, hU s k] at e
   exact absurd (K.img r h) (e ▸ (ha2 _ (H.img s k)).2)
  ·rw [hV r h, hV s k] at e; exact K.inj r s h k e
 ·rcases hr with h | h
  ·obtain ⟨e, c1, c2, g1, g2, g3⟩ := H.obj r h
   exact ⟨e, c1, c2, g1, by rw [hU r h]; exact g2, g3.mono u1⟩
  ·obtain ⟨e, c1, c2, g1, g2, g3⟩ := K.obj r h
   exact ⟨e, c1, c2, g1, by rw [hV r h]; exact g2, g3.mono v1⟩
theorem InsO.rig (x : LIns) : RigL (InsO OffF x) (InsO AnyF x) := by
 rintro row1 h1 S1 row2 h2 S2 ⟨va, vf, Sa, Sf, rfl, a2, a3, a4, a5⟩ ⟨va', vf', Sa', Sf', rfl, b2, b3, b4, b5⟩
 obtain ⟨σ, U, H, hr⟩ := IntO.rig x.args.list va h1 Sa va' h2 Sa' a2 b2
 obtain ⟨τ, V, K, kr⟩ := IntO.rig x.frm.list vf h1 Sf vf' h2 Sf' a3 b3
 obtain ⟨ρ, W, T, u, v⟩ := H.pair K a4 a5 b4 b5
 exact ⟨ρ, W, T, .cons (.bare rfl) (.cons (.bare rfl) (.cons (.bare rfl) (.cons (.bare rfl) (.cons (.bare rfl) (.cons (hr.mono u) (.cons (kr.mono v) .nil))))))⟩
theorem InsO.ex (x : LIns) : ExL (InsO OffF x) := by
 intro h hw
 obtain ⟨va, h1, Sa, p1, p2, p3, p4⟩ := IntO.ex x.args.list h hw
 obtain ⟨vf, h2, Sf, q1, q2, q3, q4⟩ := IntO.ex x.frm.list h1 p3
 have := p2.nx; have := q2.nx
 exact ⟨_, h2, fun s => h.nx ≤ s ∧ s < h2.nx, ⟨va, vf, Sa, Sf, rfl, IntO.locl _ _ _ _ p1 (fun _ h => h) fun s hs => q2.get s (p4 s hs).2, q1, fun s hs => ⟨⟨(p4 s hs).1, by have := p4 s hs; omega⟩, fun hs2 => by have := p4 s hs; have := q4 s hs2; omega⟩, fun s hs => by have := q4 s hs; omega⟩, p2.trans q2, q3, fun s hs => hs⟩
theorem Emp.any {v : AV} (H : Emp OffF v) : Emp AnyF v := .inl H.off
theorem IntO.any {v : AV} {l : List Int} {h : Hp} {S : Nat → Prop} (H : IntO OffF v l h S) : IntO AnyF v l h S := by
 rcases H with ⟨e, H⟩ | ⟨r, x, _, H⟩
 ·exact .inl ⟨e, H.any⟩
 ·exact .inr ⟨r, x, trivial, H⟩
theorem InsO.any {x : LIns} {row : List AV} {h : Hp} {S : Nat → Prop} (H : InsO OffF x row h S) : InsO AnyF x row h S := by
 obtain ⟨va, vf, Sa, Sf, h1, h2, h3, h4⟩ := H
 exact ⟨va, vf, Sa, Sf, h1, h2.any, h3.any, h4⟩
theorem InsO.rigO (x : LIns) : RigL (InsO OffF x) (InsO OffF x) := fun v1 h1 S1 v2 h2 S2 H1 H2 => InsO.rig x v1 h1 S1 v2 h2 S2 H1 H2.any
def BlkO (fl : Bool → Prop) (b : LBlock) (row : List AV) (h : Hp) (S : Nat → Prop) : Prop := ∃ u, row = u :: b.ed.cells ∧ SlO fl (InsO OffF) 7 T_ins u b.ins.list h S
def FunO (fl : Bool → Prop) (f : LFunc) (row : List AV) (h : Hp) (S : Nat → Prop) : Prop := ∃ u, row = [.int .i64 f.sig, u] ∧ SlO fl (BlkO fl) 5 T_block u f.blocks.list h S
theorem BlkO.locl (b : LBlock) (row : List AV) : Locl (BlkO fl b row) := fun h g S S' ⟨u, h1, h2⟩ hS hg => ⟨u, h1, SlO.locl InsO.locl _ _ _ _ h2 hS hg⟩
theorem FunO.locl (b : LFunc) (row : List AV) : Locl (FunO fl b row) := fun h g S S' ⟨u, h1, h2⟩ hS hg => ⟨u, h1, SlO.locl BlkO.locl _ _ _ _ h2 hS hg⟩
theorem noRefs_end (e : LEnd) : noRefs e.cells = true := rfl
theorem InsO.len (x : LIns) (row : List AV) (h : Hp) (S : Nat → Prop) (H : InsO fl x row h S) : row.length = 7 := by obtain ⟨_, _, _, _, rfl, _⟩ := H; rfl
theorem BlkO.len (x : LBlock) (row : List AV) (h : Hp) (S : Nat → Prop) (H : BlkO fl x row h S) : row.length = 5 := by obtain ⟨_, rfl, _⟩ := H; rfl
theorem FunO.len (x : LFunc) (row : List AV) (h : Hp) (S : Nat → Prop) (H : FunO fl x row h S) : row.length = 2 := by obtain ⟨_, rfl, _⟩ := H; rfl
theorem BlkO.rig (b : LBlock) : RigL (BlkO OffF b) (BlkO AnyF b) := by
 rintro row1 h1 S1 row2 h2 S2 ⟨u, rfl, a2⟩ ⟨u', rfl, b2⟩
 obtain ⟨σ, U, H, hr⟩ := SlO.rig (es := 7) (eT := T_ins) (fun a _ => InsO.rigO a) u h1 S1 u' h2 S2 a2 b2
 exact ⟨σ, U, H, .cons hr (.bare (noRefs_end _))⟩
theorem BlkO.ex (b : LBlock) : ExL (BlkO OffF b) := by
 intro h hw
 obtain ⟨u, h1, S, p1, p2, p3, p4⟩ := SlO.ex (es := 7) (eT := T_ins) InsO.locl InsO.len (fun a _ => InsO.ex a) h hw
 exact ⟨_, h1, S, ⟨u, rfl, p1⟩, p2, p3, p4⟩
theorem FunO.rig (f : LFunc) : RigL (FunO OffF f) (FunO AnyF f) := by
 rintro row1 h1 S1 row2 h2 S2 ⟨u, rfl, a2⟩ ⟨u', rfl, b2⟩
 obtain ⟨σ, U, H, hr⟩ := SlO.rig (es := 5) (eT := T_block) (fun a _ => BlkO.rig a) u h1 S1 u' h2 S2 a2 b2
 exact ⟨σ, U, H, .cons (.bare rfl) (.cons hr .nil)⟩
theorem FunO.ex (f : LFunc) : ExL (FunO OffF f) := by
 intro h hw
 obtain ⟨u, h1, S, p1, p2, p3, p4⟩ := SlO.ex (es := 5) (eT := T_block) BlkO.locl BlkO.len (fun a _ => BlkO.ex a) h hw
 exact ⟨_, h1, S, ⟨u, rfl, p1⟩, p2, p3, p4⟩
def TR (enc : X → List AV) (a : X) (row : List AV) (_ : Hp) (_ : Nat → Prop) : Prop := row = enc a
theorem TR.locl {enc : X → List AV} (a : X) (row : List AV) : Locl (TR enc a row) := fun _ _ _ _ H _ _ => H
theorem TR.rig {enc : X → List AV} (hn : ∀ a, noRefs (enc a) = true) (a : X) : RigL (TR enc a) (TR enc a) := by
 rintro _ h1 S1 _ h2 S2 rfl rfl
 exact ⟨_, _, .nil, .bare (hn a)⟩
theorem TR.ex {enc : X → List AV} (a : X) : ExL (TR enc a) := fun h hw => ⟨enc a, h, fun _ => False, rfl, .refl h, hw, fun _ h => h.elim⟩
def Hp.at (h : Hp) (k : Nat) : Hp := { nx := h.nx + 1, m := h.m, lo := k }
theorem tell_mem {P : Program} {F : Nat → Option Obj} {A B : AV → Asr} {f : FuncId} {args : List AV} (hc : CallsT P F Hp.e (fun v g => ∃ S, B v g S) f args) (hb : noRefs args = true) (hr : RigV A B) (hx : ExV A) (hl : ∀ v, Locl (A v)) (h : Hp) (hlo : h.lo = h.nx) (hw : ∀ r, h.nx ≤ r → h.get r = none) :
  ∃ v h1 S, A v h1 S ∧ Wid h h1 ∧ (∀ r, h1.nx ≤ r → h1.get r = none) ∧ (∀ s, S s → h.nx ≤ s ∧ s < h1.nx) ∧ HpLe h h1 ∧ Calling P F h h1 v f args ∧ h1.lo = h.nx ∧ h.nx < h1.nx := by
 obtain ⟨v, h1, S, q1, q2, q3, q4⟩ := hx h hw
 have hw1 : Wid h (h1.at h.nx) := ⟨Nat.le_succ_of_le q2.nx, fun r hr => q2.get r hr⟩
 have hwf : ∀ r, (h1.at h.nx).nx ≤ r → (h1.at h.nx).get r = none := fun r hr => q3 r (Nat.le_of_succ_le hr)
 refine ⟨v, h1.at h.nx, S, hl v _ _ _ _ q1 (fun _ h => h) (fun _ _ => rfl), hw1, hwf, fun s hs => ⟨(q4 s hs).1, Nat.lt_succ_of_lt (q4 s hs).2⟩, ⟨hw1.nx, Nat.le_of_eq hlo.symm, fun r h1 _ => hw1.get r h1, fun _ => hwf⟩, .of_iso hc hb hw1 hwf fun v2 h2 ⟨S2, hB⟩ => ?_, rfl, Nat.lt_succ_of_le q2.nx⟩
 obtain ⟨σ, U, T, hR⟩ := hr v h1 S v2 h2 S2 q1 hB
 exact ⟨σ, U, hR, fun r hr => ⟨(q4 r (T.sub r hr)).1, Nat.lt_succ_of_lt (q4 r (T.sub r hr)).2⟩, T.inj, T.obj⟩
theorem SlO.any {ρ τ : X → List AV → Asr} {eT : TypeId} {v : AV} {l : List X} {h : Hp} {S : Nat → Prop} (hr : ∀ a row h S, ρ a row h S → τ a row h S) (H : SlO OffF ρ es eT v l h S) : SlO AnyF τ es eT v l h S := by
 rcases H with ⟨e, H⟩ | ⟨x, _, hn, r, rows, Ss, h1, h2, h3, h4, h5, h6, h7, h8⟩
 ·exact .inl ⟨e, H.any⟩
 ·exact .inr ⟨x, trivial, hn, r, rows, Ss, h1, h2, h3, h4, h5, h6, h7, fun i a row ha hb => hr _ _ _ _ (h8 i a row ha hb)⟩
end Go.Ax
noncomputable section
namespace Go.Ax
variable {P : Program} {F : Nat → Option Obj} {gl : Nat → AV} {K : Knob} {n : Nat} {rd : Option Nat} {l : Kn} {h : Hp} {ds : List ADef} {Q : PQ} {all rest : List Oper} {m : Loc}
theorem VRel.isl0_inv {cv : Value} (h : VRel P F m (.isl []) cv) : ∃ ad cap, cv = .slice ad 0 cap := by
 cases h with
 | isl0 a cap => exact ⟨a, cap, rfl⟩
 | isl es f hF hl hes hf hc => exact ⟨_, _, rfl⟩
theorem OpT.isNil (hP : POk P F gl K) {t u ty : TypeId} {x y : Operand} {dd : Option Nat} {pos : String} {aft : Array Edge} {gd : Option (Nat × Bool)} {ti : TI} {e : TypeId} (hx : evK (Ctx.of P gl K) l x = some (.isl [])) (hy : evK (Ctx.of P gl K) l y = some .nilsl) (ht : (Ctx.of P gl K).ti t = some ti) (hd : ti.desc = .slice e) :
  OpT P F ⟨dd, .binOp .eql t x y u, ty, pos, aft, gd⟩ n rd l h ds (fun v g => g = h ∧ ∃ b, v = .bool b) := by
 refine ⟨nofun, fun s hs m a w hr htm hF => ?_⟩
 have h1 := ev_rel hP htm x
 rw [hs.ev hx] at h1
 have h2 := ev_rel hP htm y
 rw [hs.ev hy] at h2
 obtain ⟨ad, cap, h3⟩ := h1.isl0_inv
 have h4 := h2.nilsl_inv
 have hu := ti_underlying ht
 rw [hd] at hu
 refine .inl ⟨.bool ad.isNone, h, ⟨rfl, _, rfl⟩, .refl h, .inl (.pureV hr ⟨.bool ad.isNone, ?_, .bool _⟩)⟩
 show (do eqGuard .eql t x y (a.eval x) (a.eval y); binOp .eql t (a.eval x) (a.eval y) : Sem Value).run P w = _
 rw [h3, h4, Sem.run_bind, eqGuard_other (cx := .slice ad 0 cap) (cy := .slice none 0 0) w (by rintro ⟨h, _⟩; cases h) (by rintro ⟨_, _, h, _⟩; cases h)]
 simp only [Result.andThen]
 rw [(binOp_eql (t := t) (cx := .slice ad 0 cap) (cy := .slice none 0 0) (by rintro ⟨_, _, _, _, h, _⟩; cases h) (by rintro ⟨_, _, h, _⟩; cases h) nofun nofun).1, Sem.run_bind]
 unfold Op.equal
 have h5 : ∀ k, 0 < k → (Op.equalIn k t (.slice ad 0 cap) (.slice none 0 0)).run P w = .ok ad.isNone w := fun k hk => by
  obtain ⟨d, rfl⟩ : ∃ d, k = d + 1 := ⟨k - 1, by omega⟩
  cases ad <;> simp [Op.equalIn, run_underlying hu]
 rw [h5 Op.maxDepth (by decide)]
 rfl
theorem TO.isNil (hP : POk P F gl K) {t u ty : TypeId} {x y : Operand} {d : Nat} {pos : String} {aft : Array Edge} {ti : TI} {e : TypeId} (hb : Nat.blt d n = true) (hx : evK (Ctx.of P gl K) l x = some (.isl [])) (hy : evK (Ctx.of P gl K) l y = some .nilsl) (ht : (Ctx.of P gl K).ti t = some ti) (hd : ti.desc = .slice e)
  (k : ∀ b, TO P F all rest n rd ((d, .bool b) :: l) h ds Q) : TO P F all (⟨some d, .binOp .eql t x y u, ty, pos, aft, none⟩ :: rest) n rd l h ds Q :=
 .step rfl rfl hb (.isNil hP hx hy ht hd) fun v h' ⟨e1, b, e2⟩ => by subst e1 e2; exact k b
theorem TO.one (hP : POk P F gl K) {o : Oper} {d : Nat} {v : AV} {h1 : Hp} (hk : knowns l o.op.operands.toList = true) (hw : wantK all l o = some true) (hd : o.dst = some d) (hb : Nat.blt d n = true) (ho : opA P (Ctx.of P gl K) nix (knSt l h) o = some (.val v h1)) (k : TO P F all rest n rd ((d, v) :: l) h1 ds Q) : TO P F all (o :: rest) n rd l h ds Q :=
 .step (O := fun u g => u = v ∧ g = h1) hw hd hb (.det hP nix_sound fun s hs => by
  rw [opA_congr (s' := knSt l h) hs.h (fun x hx => knowns_ev hs hk x (by simpa using hx))]
  exact ho) fun v' h' ⟨e1, e2⟩ => by subst e1 e2; exact k
theorem TW.wf {c : Code} (ht : (∀ r, h.nx ≤ r → h.get r = none) → TW P F c n rd l h ds Q) : TW P F c n rd l h ds Q := fun s hs m a w fe k hr => ht hr.wf s hs m a w fe k hr
end Go.Ax
set_option maxRecDepth 20000
noncomputable section
namespace Go.Ax
open Go.Proofs
attribute [local irreducible] TW TO CallsT PureC
variable {F : Nat → Option Obj} {gl : Nat → AV} {K : Knob} {S S' : Nat → Prop}
theorem app_fresh {C : Ctx} {h : Hp} {es q : Nat} {t xt eT : TypeId} {x : AV} {rows : List (List AV)} {n : Nat} (ht : slT C t eT es = true) (hxt : isSrcT (C.ti xt) = true) (hq : h.get q = some (.cells eT [])) (hqn : q < h.nx) (hl : lenA x = some n) (hn : rows.length = n)
  (hsrc : srcCells h es n x = some rows.flatten) (hrows : ∀ c ∈ rows, c.length = es) (hcell : rows.flatten.all isCell = true) (hlen : n ≤ 1000000) :
  ∃ p ex h', appendA C t xt (.sl q 0 0 0 es true) x h = some (.sl p 0 n n es ex, h') ∧ (∀ r, r < h.nx → h'.get r = h.get r) ∧ h.nx ≤ h'.nx ∧ (p = q ∨ h.nx ≤ p) ∧ p < h'.nx ∧ h'.get p = some (.cells eT rows.flatten) := by
 unfold slT at ht
 split at ht
 case h_2 => cases ht
 rename_i e size isAgg zero zeroOk bytes comparable zv y hti hy
 simp only [Bool.and_eq_true, decide_eq_true_eq] at ht
 obtain ⟨rfl, hys, hz, hby⟩ := ht
 have hnl : rows.flatten.length = n * es := by rw [flat_len hrows, hn]
 cases hx : C.ti xt with
 | none => rw [hx] at hxt; cases hxt
 | some xi =>
 rw [hx] at hxt
 have hxi : isSrc xi.desc = true := hxt
 have hsrc' : srcCells h y.size n x = some rows.flatten := by rw [hys]; exact hsrc
 have b1 : Nat.ble y.bytes 1000000 = true := Nat.ble_eq_true_of_le hby
 have b2 : Nat.beq rows.flatten.length (Nat.mul n y.size) = true := by rw [hnl, hys]; exact Nat.beq_refl _
 have b3 : Nat.beq es y.size = true := by rw [hys]; exact Nat.beq_refl _
 have b4 : Nat.ble (Nat.add 0 n) 1000000 = true := Nat.ble_eq_true_of_le (by simp; omega)
 by_cases h0 : n = 0
 ·subst h0
  obtain rfl := List.eq_nil_of_length_eq_zero hn
  refine ⟨q, true, h.put q (.cells e []), ?_, fun r hr => ?_, Nat.le_refl _, .inl rfl, hqn, by rw [get_put, if_pos rfl]; rfl⟩
  ·unfold appendA
   rw [hti, hx, hl]
   try dsimp only
   rw [hy, hxi]
   try dsimp only
   rw [hsrc']
   try dsimp only
   rw [hcell, b1, b2]
   try dsimp only
   rw [hq]
   try dsimp only
   rw [b3]
   simp [putCells, ble_dec]
  ·rw [get_put]
   by_cases e : q = r
   ·subst e; rw [if_pos rfl, hq]
   ·rw [if_neg e]
 ·have b5 : Nat.ble (Nat.add 0 n) 0 = false := by
   cases hc : Nat.ble (Nat.add 0 n) 0 with
   | false => rfl
   | true => have := Nat.le_of_ble_eq_true hc; simp at this; omega
  refine ⟨h.nx, false, h.new (.cells e rows.flatten), ?_, fun r hr => by rw [get_new, if_neg (by omega)], Nat.le_succ _, .inr (Nat.le_refl _), Nat.lt_succ_self _, by rw [get_new, if_pos rfl]⟩
  ·unfold appendA
   rw [hti, hx, hl]
   try dsimp only
   rw [hy, hxi]
   try dsimp only
   rw [hsrc']
   try dsimp only
   rw [hcell, b1, b2]
   try dsimp only
   rw [hq]
   try dsimp only
   rw [b3, b4, b5, hz]
   simp
theorem app_told {X : Type} {C : Ctx} {es : Nat} {t eT : TypeId} {enc : X → List AV} (ht : slT C t eT es = true) (hxt : isSrcT (C.ti t) = true) (hes : ∀ a, (enc a).length = es) (hce : ∀ a, (enc a).all isCell = true) (l : List X) (hlen : l.length ≤ 1000000) (h : Hp) :
  ∃ p ex h', appendA C t t (.sl h.nx 0 0 0 es true) (.isl (l.map enc)) (h.new (.cells eT [])) = some (.sl p 0 l.length l.length es ex, h') ∧ Wid h h' ∧ h.nx ≤ p ∧ p < h'.nx ∧ h'.get p = some (.cells eT (l.map enc).flatten) := by
 have hel : ∀ c ∈ l.map enc, c.length = es := fun c hc => by obtain ⟨a, _, rfl⟩ := List.mem_map.1 hc; exact hes a
 have hca : (l.map enc).flatten.all isCell = true := by
  rw [List.all_eq_true]
  intro c hc
  obtain ⟨r, hr, hc2⟩ := List.mem_flatten.1 hc
  obtain ⟨a, _, rfl⟩ := List.mem_map.1 hr
  exact List.all_eq_true.1 (hce a) c hc2
 have hs := src_isl (h := h.new (.cells eT [])) hel
 rw [List.length_map] at hs
 obtain ⟨p, ex, h', q1, q2, q3, q4, q5, q6⟩ := app_fresh (q := h.nx) (h := h.new (.cells eT [])) (x := .isl (l.map enc)) (rows := l.map enc) (n := l.length) ht hxt (by simp [get_new]) (by simp) (by simp [lenA]) (by simp) hs hel hca hlen
 have hn := nx_new (h := h) (o := .cells eT [])
 refine ⟨p, ex, h', q1, ⟨by omega, fun r hr => ?_⟩, by omega, q5, q6⟩
 rw [q2 r (by omega), get_new, if_neg (by omega)]
theorem arr_told {X : Type} {es p : Nat} {eT : TypeId} {ex : Bool} {enc : X → List AV} (hes : ∀ a, (enc a).length = es) {l : List X} {g : Hp} (hg : g.get p = some (.cells eT (l.map enc).flatten)) : ArrS (TR enc) es eT ex (.sl p 0 l.length l.length es ex) (.mk l) g (fun s => s = p) := by
 refine ⟨p, l.map enc, fun _ _ => False, rfl, rfl, hg, by simp, fun c hc => ?_, fun _ _ h => h.elim, fun _ _ _ h => h.elim, fun i a row ha hr => ?_⟩
 ·obtain ⟨a, _, rfl⟩ := List.mem_map.1 hc; exact hes a
 ·rw [List.getElem?_map, ha] at hr; cases hr; rfl
theorem isrc_types : isSrcT ((Ctx.of Tryz.prog gl K).ti T_types) = true := by simp [isSrcT, isSrc]
theorem isrc_funcs : isSrcT ((Ctx.of Tryz.prog gl K).ti T_funcs) = true := by simp [isSrcT, isSrc]
theorem isrc_blocks : isSrcT ((Ctx.of Tryz.prog gl K).ti T_blocks) = true := by simp [isSrcT, isSrc]
theorem isrc_inss : isSrcT ((Ctx.of Tryz.prog gl K).ti T_inss) = true := by simp [isSrcT, isSrc]
theorem Clone_ints (hP : POk Tryz.prog F gl K) (xs : Sl Int) (hlen : xs.list.length ≤ 1000000) (h0 : Hp) :
    CallsT Tryz.prog F h0 (fun v g => Wid h0 g ∧ ∃ S, (∀ s, S s → h0.nx ≤ s ∧ s < g.nx) ∧ IntO AnyF v xs.list g S) N_slices_Clone_int_int [xs.av cI] := by
  refine CallsT.body hP nix_sound E_slices_Clone_int_int rfl rfl ?_
  have hnil : binOpA (Ctx.of Tryz.prog gl K) .eql 26 .nilsl .nilsl = some (.bool true) := by kernel_rfl
  have done : ∀ (l : List Int) p ex h', Wid h0 h' → h0.nx ≤ p → p < h'.nx → h'.get p = some (.cells 3 (l.map cI).flatten) → Wid h0 h' ∧ ∃ S, (∀ s, S s → h0.nx ≤ s ∧ s < h'.nx) ∧ IntO AnyF (.sl p 0 l.length l.length 1 ex) l h' S := fun l p ex h' q2 q3 q4 q5 => by
    have e : ∀ l : List Int, (l.map cI).flatten = l.map (.int .i64) := fun l => by induction l with | nil => rfl | cons a l ih => simp [ih]
    cases l with
    | nil => exact ⟨q2, fun _ => False, nofun, .inl ⟨rfl, .inr ⟨trivial, .inr ⟨_, _, _, _, _, rfl⟩⟩⟩⟩
    | cons a l => exact ⟨q2, fun s => s = p, fun s hs => by omega, .inr ⟨p, ex, trivial, nofun, rfl, rfl, by rw [q5, e]⟩⟩
  cases xs with
  | nil =>
    repeat' first | refine TW.seq ?_ | refine TW.condT hP rfl ?_ | (refine TW.regG hP (by simp [Sl.av, hnil] <;> rfl) ?_; dsimp only [goK]) | simp only [thenQ] | (refine TW.ret ⟨.inr rfl, _, _, rfl, rfl, ?_⟩; dsimp only [tupOf])
    exact ⟨.refl _, fun _ => False, nofun, .inl ⟨rfl, .inr ⟨trivial, .inl rfl⟩⟩⟩
  | mk l =>
    obtain ⟨p, ex, h', q1, q2, q3, q4, q5⟩ := app_told (enc := cI) (slt_ints (gl := gl) (K := K)) isrc_ints (fun _ => rfl) (fun _ => rfl) l hlen h0
    dsimp only [T_ints, T_int] at q1
    cases l with
    | cons a l =>
      have hne : binOpA (Ctx.of Tryz.prog gl K) .eql 26 (.isl (cI a :: l.map cI)) .nilsl = some (.bool false) := by kernel_rfl
      rw [List.map_cons] at q1
      dsimp only [cI] at q1 hne
      repeat' first | refine TW.seq ?_ | refine TW.skip ?_ | refine TW.condF hP rfl ?_ | (refine TW.regG hP (by simp [Sl.av, hne, q1] <;> rfl) ?_; dsimp only [goK]) | simp only [thenQ] | (refine TW.ret ⟨.inr rfl, _, _, rfl, rfl, ?_⟩; dsimp only [tupOf])
      exact done (a :: l) p ex h' q2 q3 q4 q5
    | nil =>
      refine TW.seq (TW.regG hP (by simp <;> rfl) ?_)
      dsimp only [goK, thenQ, blockQ, roundL]
      refine TW.seq (TW.seq (TW.region ?_))
      refine TO.one hP (v := .isl []) (h1 := h0) rfl rfl rfl rfl rfl ?_
      refine TO.isNil hP rfl rfl rfl (ti := _) (e := 3) rfl rfl fun b => ?_
      refine TO.runsG hP (by simp <;> rfl) ?_
      dsimp only [goK, thenQ]
      cases b with
      | true =>
        repeat' first | refine TW.seq ?_ | refine TW.condT hP rfl ?_ | (refine TW.regG hP (by simp <;> rfl) ?_; dsimp only [goK]) | simp only [thenQ] | (refine TW.ret ⟨.inr rfl, _, _, rfl, rfl, ?_⟩; dsimp only [tupOf])
        exact ⟨.refl _, fun _ => False, nofun, .inl ⟨rfl, .inr ⟨trivial, .inl rfl⟩⟩⟩
      | false =>
        rw [List.map_nil] at q1
        repeat' first | refine TW.seq ?_ | refine TW.skip ?_ | refine TW.condF hP rfl ?_ | (refine TW.regG hP (by simp [Sl.av, q1] <;> rfl) ?_; dsimp only [goK]) | simp only [thenQ] | (refine TW.ret ⟨.inr rfl, _, _, rfl, rfl, ?_⟩; dsimp only [tupOf])
        exact done [] p ex h' q2 q3 q4 q5
theorem Clone_funcs (hP : POk Tryz.prog F gl K) (xs : Sl LFunc) (hlen : xs.list.length ≤ 1000000) (h0 : Hp) :
    CallsT Tryz.prog F h0 (fun v g => Wid h0 g ∧ ∃ S, (∀ s, S s → h0.nx ≤ s ∧ s < g.nx) ∧ SlO AnyF (TR LFunc.cells) 2 T_func v xs.list g S) N_slices_Clone_api_Func_api_Func [xs.av LFunc.cells] := by
  refine CallsT.body hP nix_sound E_slices_Clone_api_Func_api_Func rfl rfl ?_
  have hnil : binOpA (Ctx.of Tryz.prog gl K) .eql 23 .nilsl .nilsl = some (.bool true) := by kernel_rfl
  have done : ∀ (l : List LFunc) p ex h', Wid h0 h' → h0.nx ≤ p → p < h'.nx → h'.get p = some (.cells 43 (l.map LFunc.cells).flatten) → Wid h0 h' ∧ ∃ S, (∀ s, S s → h0.nx ≤ s ∧ s < h'.nx) ∧ SlO AnyF (TR LFunc.cells) 2 T_func (.sl p 0 l.length l.length 2 ex) l h' S := fun l p ex h' q2 q3 q4 q5 => by
    cases l with
    | nil => exact ⟨q2, fun _ => False, nofun, .inl ⟨rfl, .inr ⟨trivial, .inr ⟨_, _, _, _, _, rfl⟩⟩⟩⟩
    | cons a l => exact ⟨q2, fun s => s = p, fun s hs => by omega, .inr ⟨ex, trivial, nofun, arr_told (enc := LFunc.cells) (es := 2) (fun _ => rfl) q5⟩⟩
  cases xs with
  | nil =>
    repeat' first | refine TW.seq ?_ | refine TW.condT hP rfl ?_ | (refine TW.regG hP (by simp [(show (Sl.nil : Sl LFunc).av LFunc.cells = .nilsl from rfl), hnil] <;> rfl) ?_; dsimp only [goK]) | simp only [thenQ] | (refine TW.ret ⟨.inr rfl, _, _, rfl, rfl, ?_⟩; dsimp only [tupOf])
    exact ⟨.refl _, fun _ => False, nofun, .inl ⟨rfl, .inr ⟨trivial, .inl rfl⟩⟩⟩
  | mk l =>
    obtain ⟨p, ex, h', q1, q2, q3, q4, q5⟩ := app_told (enc := LFunc.cells) (slt_funcs (gl := gl) (K := K)) isrc_funcs (fun _ => rfl) (fun a => by simp) l hlen h0
    dsimp only [T_funcs, T_func] at q1
    cases l with
    | cons a l =>
      have hne : binOpA (Ctx.of Tryz.prog gl K) .eql 23 (.isl (LFunc.cells a :: l.map LFunc.cells)) .nilsl = some (.bool false) := by kernel_rfl
      rw [List.map_cons] at q1
      dsimp only [LFunc.cells, LEnd.cells] at q1 hne
      repeat' first | refine TW.seq ?_ | refine TW.skip ?_ | refine TW.condF hP rfl ?_ | (refine TW.regG hP (by simp [(show (Sl.mk (a :: l)).av LFunc.cells = .isl (LFunc.cells a :: l.map LFunc.cells) from rfl), hne, q1] <;> rfl) ?_; dsimp only [goK]) | simp only [thenQ] | (refine TW.ret ⟨.inr rfl, _, _, rfl, rfl, ?_⟩; dsimp only [tupOf])
      exact done (a :: l) p ex h' q2 q3 q4 q5
    | nil =>
      refine TW.seq (TW.regG hP (by simp <;> rfl) ?_)
      dsimp only [goK, thenQ, blockQ, roundL]
      refine TW.seq (TW.seq (TW.region ?_))
      refine TO.one hP (v := .isl []) (h1 := h0) rfl rfl rfl rfl rfl ?_
      refine TO.isNil hP rfl rfl rfl (ti := _) (e := 43) rfl rfl fun b => ?_
      refine TO.runsG hP (by simp <;> rfl) ?_
      dsimp only [goK, thenQ]
      cases b with
      | true =>
        repeat' first | refine TW.seq ?_ | refine TW.condT hP rfl ?_ | (refine TW.regG hP (by simp <;> rfl) ?_; dsimp only [goK]) | simp only [thenQ] | (refine TW.ret ⟨.inr rfl, _, _, rfl, rfl, ?_⟩; dsimp only [tupOf])
        exact ⟨.refl _, fun _ => False, nofun, .inl ⟨rfl, .inr ⟨trivial, .inl rfl⟩⟩⟩
      | false =>
        rw [List.map_nil] at q1
        repeat' first | refine TW.seq ?_ | refine TW.skip ?_ | refine TW.condF hP rfl ?_ | (refine TW.regG hP (by simp [(show (Sl.mk ([] : List LFunc)).av LFunc.cells = .isl [] from rfl), q1] <;> rfl) ?_; dsimp only [goK]) | simp only [thenQ] | (refine TW.ret ⟨.inr rfl, _, _, rfl, rfl, ?_⟩; dsimp only [tupOf])
        exact done [] p ex h' q2 q3 q4 q5
theorem Clone_blocks (hP : POk Tryz.prog F gl K) (xs : Sl LBlock) (hlen : xs.list.length ≤ 1000000) (h0 : Hp) :
    CallsT Tryz.prog F h0 (fun v g => Wid h0 g ∧ ∃ S, (∀ s, S s → h0.nx ≤ s ∧ s < g.nx) ∧ SlO AnyF (TR LBlock.cells) 5 T_block v xs.list g S) N_slices_Clone_api_Block_api_Block [xs.av LBlock.cells] := by
  refine CallsT.body hP nix_sound E_slices_Clone_api_Block_api_Block rfl rfl ?_
  have hnil : binOpA (Ctx.of Tryz.prog gl K) .eql 41 .nilsl .nilsl = some (.bool true) := by kernel_rfl
  have done : ∀ (l : List LBlock) p ex h', Wid h0 h' → h0.nx ≤ p → p < h'.nx → h'.get p = some (.cells 49 (l.map LBlock.cells).flatten) → Wid h0 h' ∧ ∃ S, (∀ s, S s → h0.nx ≤ s ∧ s < h'.nx) ∧ SlO AnyF (TR LBlock.cells) 5 T_block (.sl p 0 l.length l.length 5 ex) l h' S := fun l p ex h' q2 q3 q4 q5 => by
    cases l with
    | nil => exact ⟨q2, fun _ => False, nofun, .inl ⟨rfl, .inr ⟨trivial, .inr ⟨_, _, _, _, _, rfl⟩⟩⟩⟩
    | cons a l => exact ⟨q2, fun s => s = p, fun s hs => by omega, .inr ⟨ex, trivial, nofun, arr_told (enc := LBlock.cells) (es := 5) (fun _ => rfl) q5⟩⟩
  cases xs with
  | nil =>
    repeat' first | refine TW.seq ?_ | refine TW.condT hP rfl ?_ | (refine TW.regG hP (by simp [(show (Sl.nil : Sl LBlock).av LBlock.cells = .nilsl from rfl), hnil] <;> rfl) ?_; dsimp only [goK]) | simp only [thenQ] | (refine TW.ret ⟨.inr rfl, _, _, rfl, rfl, ?_⟩; dsimp only [tupOf])
    exact ⟨.refl _, fun _ => False, nofun, .inl ⟨rfl, .inr ⟨trivial, .inl rfl⟩⟩⟩
  | mk l =>
    obtain ⟨p, ex, h', q1, q2, q3, q4, q5⟩ := app_told (enc := LBlock.cells) (slt_blocks (gl := gl) (K := K)) isrc_blocks (fun _ => rfl) (fun a => by simp) l hlen h0
    dsimp only [T_blocks, T_block] at q1
    cases l with
    | cons a l =>
      have hne : binOpA (Ctx.of Tryz.prog gl K) .eql 41 (.isl (LBlock.cells a :: l.map LBlock.cells)) .nilsl = some (.bool false) := by kernel_rfl
      rw [List.map_cons] at q1
      dsimp only [LBlock.cells, LEnd.cells] at q1 hne
      repeat' first | refine TW.seq ?_ | refine TW.skip ?_ | refine TW.condF hP rfl ?_ | (refine TW.regG hP (by simp [(show (Sl.mk (a :: l)).av LBlock.cells = .isl (LBlock.cells a :: l.map LBlock.cells) from rfl), hne, q1] <;> rfl) ?_; dsimp only [goK]) | simp only [thenQ] | (refine TW.ret ⟨.inr rfl, _, _, rfl, rfl, ?_⟩; dsimp only [tupOf])
      exact done (a :: l) p ex h' q2 q3 q4 q5
    | nil =>
      refine TW.seq (TW.regG hP (by simp <;> rfl) ?_)
      dsimp only [goK, thenQ, blockQ, roundL]
      refine TW.seq (TW.seq (TW.region ?_))
      refine TO.one hP (v := .isl []) (h1 := h0) rfl rfl rfl rfl rfl ?_
      refine TO.isNil hP rfl rfl rfl (ti := _) (e := 49) rfl rfl fun b => ?_
      refine TO.runsG hP (by simp <;> rfl) ?_
      dsimp only [goK, thenQ]
      cases b with
      | true =>
        repeat' first | refine TW.seq ?_ | refine TW.condT hP rfl ?_ | (refine TW.regG hP (by simp <;> rfl) ?_; dsimp only [goK]) | simp only [thenQ] | (refine TW.ret ⟨.inr rfl, _, _, rfl, rfl, ?_⟩; dsimp only [tupOf])
        exact ⟨.refl _, fun _ => False, nofun, .inl ⟨rfl, .inr ⟨trivial, .inl rfl⟩⟩⟩
      | false =>
        rw [List.map_nil] at q1
        repeat' first | refine TW.seq ?_ | refine TW.skip ?_ | refine TW.condF hP rfl ?_ | (refine TW.regG hP (by simp [(show (Sl.mk ([] : List LBlock)).av LBlock.cells = .isl [] from rfl), q1] <;> rfl) ?_; dsimp only [goK]) | simp only [thenQ] | (refine TW.ret ⟨.inr rfl, _, _, rfl, rfl, ?_⟩; dsimp only [tupOf])
        exact done [] p ex h' q2 q3 q4 q5
theorem Clone_inss (hP : POk Tryz.prog F gl K) (xs : Sl LIns) (hlen : xs.list.length ≤ 1000000) (h0 : Hp) :
    CallsT Tryz.prog F h0 (fun v g => Wid h0 g ∧ ∃ S, (∀ s, S s → h0.nx ≤ s ∧ s < g.nx) ∧ SlO AnyF (TR LIns.cells) 7 T_ins v xs.list g S) N_slices_Clone_api_Ins_api_Ins [xs.av LIns.cells] := by
  refine CallsT.body hP nix_sound E_slices_Clone_api_Ins_api_Ins rfl rfl ?_
  have hnil : binOpA (Ctx.of Tryz.prog gl K) .eql 45 .nilsl .nilsl = some (.bool true) := by kernel_rfl
  have done : ∀ (l : List LIns) p ex h', Wid h0 h' → h0.nx ≤ p → p < h'.nx → h'.get p = some (.cells 52 (l.map LIns.cells).flatten) → Wid h0 h' ∧ ∃ S, (∀ s, S s → h0.nx ≤ s ∧ s < h'.nx) ∧ SlO AnyF (TR LIns.cells) 7 T_ins (.sl p 0 l.length l.length 7 ex) l h' S := fun l p ex h' q2 q3 q4 q5 => by
    cases l with
    | nil => exact ⟨q2, fun _ => False, nofun, .inl ⟨rfl, .inr ⟨trivial, .inr ⟨_, _, _, _, _, rfl⟩⟩⟩⟩
    | cons a l => exact ⟨q2, fun s => s = p, fun s hs => by omega, .inr ⟨ex, trivial, nofun, arr_told (enc := LIns.cells) (es := 7) (fun _ => rfl) q5⟩⟩
  cases xs with
  | nil =>
    repeat' first | refine TW.seq ?_ | refine TW.condT hP rfl ?_ | (refine TW.regG hP (by simp [(show (Sl.nil : Sl LIns).av LIns.cells = .nilsl from rfl), hnil] <;> rfl) ?_; dsimp only [goK]) | simp only [thenQ] | (refine TW.ret ⟨.inr rfl, _, _, rfl, rfl, ?_⟩; dsimp only [tupOf])
    exact ⟨.refl _, fun _ => False, nofun, .inl ⟨rfl, .inr ⟨trivial, .inl rfl⟩⟩⟩
  | mk l =>
    obtain ⟨p, ex, h', q1, q2, q3, q4, q5⟩ := app_told (enc := LIns.cells) (slt_inss (gl := gl) (K := K)) isrc_inss (fun _ => rfl) (fun a => by simp) l hlen h0
    dsimp only [T_inss, T_ins] at q1
    cases l with
    | cons a l =>
      have hne : binOpA (Ctx.of Tryz.prog gl K) .eql 45 (.isl (LIns.cells a :: l.map LIns.cells)) .nilsl = some (.bool false) := by kernel_rfl
      rw [List.map_cons] at q1
      dsimp only [LIns.cells, LEnd.cells] at q1 hne
      repeat' first | refine TW.seq ?_ | refine TW.skip ?_ | refine TW.condF hP rfl ?_ | (refine TW.regG hP (by simp [(show (Sl.mk (a :: l)).av LIns.cells = .isl (LIns.cells a :: l.map LIns.cells) from rfl), hne, q1] <;> rfl) ?_; dsimp only [goK]) | simp only [thenQ] | (refine TW.ret ⟨.inr rfl, _, _, rfl, rfl, ?_⟩; dsimp only [tupOf])
      exact done (a :: l) p ex h' q2 q3 q4 q5
    | nil =>
      refine TW.seq (TW.regG hP (by simp <;> rfl) ?_)
      dsimp only [goK, thenQ, blockQ, roundL]
      refine TW.seq (TW.seq (TW.region ?_))
      refine TO.one hP (v := .isl []) (h1 := h0) rfl rfl rfl rfl rfl ?_
      refine TO.isNil hP rfl rfl rfl (ti := _) (e := 52) rfl rfl fun b => ?_
      refine TO.runsG hP (by simp <;> rfl) ?_
      dsimp only [goK, thenQ]
      cases b with
      | true =>
        repeat' first | refine TW.seq ?_ | refine TW.condT hP rfl ?_ | (refine TW.regG hP (by simp <;> rfl) ?_; dsimp only [goK]) | simp only [thenQ] | (refine TW.ret ⟨.inr rfl, _, _, rfl, rfl, ?_⟩; dsimp only [tupOf])
        exact ⟨.refl _, fun _ => False, nofun, .inl ⟨rfl, .inr ⟨trivial, .inl rfl⟩⟩⟩
      | false =>
        rw [List.map_nil] at q1
        repeat' first | refine TW.seq ?_ | refine TW.skip ?_ | refine TW.condF hP rfl ?_ | (refine TW.regG hP (by simp [(show (Sl.mk ([] : List LIns)).av LIns.cells = .isl [] from rfl), q1] <;> rfl) ?_; dsimp only [goK]) | simp only [thenQ] | (refine TW.ret ⟨.inr rfl, _, _, rfl, rfl, ?_⟩; dsimp only [tupOf])
        exact done [] p ex h' q2 q3 q4 q5
theorem Clone_types (hP : POk Tryz.prog F gl K) (xs : Sl LType) (hlen : xs.list.length ≤ 1000000) (h0 : Hp) :
    CallsT Tryz.prog F h0 (fun v g => Wid h0 g ∧ ∃ S, (∀ s, S s → h0.nx ≤ s ∧ s < g.nx) ∧ SlO AnyF (TR LType.cells) 4 T_type v xs.list g S) N_slices_Clone_api_Type_api_Type [xs.av LType.cells] := by
  refine CallsT.body hP nix_sound E_slices_Clone_api_Type_api_Type rfl rfl ?_
  have hnil : binOpA (Ctx.of Tryz.prog gl K) .eql 22 .nilsl .nilsl = some (.bool true) := by kernel_rfl
  have done : ∀ (l : List LType) p ex h', Wid h0 h' → h0.nx ≤ p → p < h'.nx → h'.get p = some (.cells 97 (l.map LType.cells).flatten) → Wid h0 h' ∧ ∃ S, (∀ s, S s → h0.nx ≤ s ∧ s < h'.nx) ∧ SlO AnyF (TR LType.cells) 4 T_type (.sl p 0 l.length l.length 4 ex) l h' S := fun l p ex h' q2 q3 q4 q5 => by
    cases l with
    | nil => exact ⟨q2, fun _ => False, nofun, .inl ⟨rfl, .inr ⟨trivial, .inr ⟨_, _, _, _, _, rfl⟩⟩⟩⟩
    | cons a l => exact ⟨q2, fun s => s = p, fun s hs => by omega, .inr ⟨ex, trivial, nofun, arr_told (enc := LType.cells) (es := 4) (fun _ => rfl) q5⟩⟩
  cases xs with
  | nil =>
    repeat' first | refine TW.seq ?_ | refine TW.condT hP rfl ?_ | (refine TW.regG hP (by simp [(show (Sl.nil : Sl LType).av LType.cells = .nilsl from rfl), hnil] <;> rfl) ?_; dsimp only [goK]) | simp only [thenQ] | (refine TW.ret ⟨.inr rfl, _, _, rfl, rfl, ?_⟩; dsimp only [tupOf])
    exact ⟨.refl _, fun _ => False, nofun, .inl ⟨rfl, .inr ⟨trivial, .inl rfl⟩⟩⟩
  | mk l =>
    obtain ⟨p, ex, h', q1, q2, q3, q4, q5⟩ := app_told (enc := LType.cells) (slt_types (gl := gl) (K := K)) isrc_types (fun _ => rfl) (fun a => by simp) l hlen h0
    dsimp only [T_types, T_type] at q1
    cases l with
    | cons a l =>
      have hne : binOpA (Ctx.of Tryz.prog gl K) .eql 22 (.isl (LType.cells a :: l.map LType.cells)) .nilsl = some (.bool false) := by kernel_rfl
      rw [List.map_cons] at q1
      dsimp only [LType.cells, LEnd.cells] at q1 hne
      repeat' first | refine TW.seq ?_ | refine TW.skip ?_ | refine TW.condF hP rfl ?_ | (refine TW.regG hP (by simp [(show (Sl.mk (a :: l)).av LType.cells = .isl (LType.cells a :: l.map LType.cells) from rfl), hne, q1] <;> rfl) ?_; dsimp only [goK]) | simp only [thenQ] | (refine TW.ret ⟨.inr rfl, _, _, rfl, rfl, ?_⟩; dsimp only [tupOf])
      exact done (a :: l) p ex h' q2 q3 q4 q5
    | nil =>
      refine TW.seq (TW.regG hP (by simp <;> rfl) ?_)
      dsimp only [goK, thenQ, blockQ, roundL]
      refine TW.seq (TW.seq (TW.region ?_))
      refine TO.one hP (v := .isl []) (h1 := h0) rfl rfl rfl rfl rfl ?_
      refine TO.isNil hP rfl rfl rfl (ti := _) (e := 97) rfl rfl fun b => ?_
      refine TO.runsG hP (by simp <;> rfl) ?_
      dsimp only [goK, thenQ]
      cases b with
      | true =>
        repeat' first | refine TW.seq ?_ | refine TW.condT hP rfl ?_ | (refine TW.regG hP (by simp <;> rfl) ?_; dsimp only [goK]) | simp only [thenQ] | (refine TW.ret ⟨.inr rfl, _, _, rfl, rfl, ?_⟩; dsimp only [tupOf])
        exact ⟨.refl _, fun _ => False, nofun, .inl ⟨rfl, .inr ⟨trivial, .inl rfl⟩⟩⟩
      | false =>
        rw [List.map_nil] at q1
        repeat' first | refine TW.seq ?_ | refine TW.skip ?_ | refine TW.condF hP rfl ?_ | (refine TW.regG hP (by simp [(show (Sl.mk ([] : List LType)).av LType.cells = .isl [] from rfl), q1] <;> rfl) ?_; dsimp only [goK]) | simp only [thenQ] | (refine TW.ret ⟨.inr rfl, _, _, rfl, rfl, ?_⟩; dsimp only [tupOf])
        exact done [] p ex h' q2 q3 q4 q5
end Go.Ax
set_option maxRecDepth 20000
noncomputable section
namespace Go.Ax
open Go.Proofs
attribute [local irreducible] TW TO CallsT PureC
variable {F : Nat → Option Obj} {gl : Nat → AV} {K : Knob} {S S' : Nat → Prop} {X : Type}
def mixL (i : Nat) (l : List X) : List (Bool × X) := (l.take i).map (fun a => (true, a)) ++ (l.drop i).map (fun a => (false, a))
def mixR (ρ τ : X → List AV → Asr) (q : Bool × X) : List AV → Asr := bif q.1 then ρ q.2 else τ q.2
theorem mixR.locl {ρ τ : X → List AV → Asr} (h1 : ∀ a row, Locl (ρ a row)) (h2 : ∀ a row, Locl (τ a row)) : ∀ q row, Locl (mixR ρ τ q row)
 | (true, a), row => h1 a row
 | (false, a), row => h2 a row
theorem mixL_len {i : Nat} {l : List X} : (mixL i l).length = l.length := by simp [mixL]; omega
theorem mixL_get {i : Nat} {l : List X} {a : X} (h : l[i]? = some a) : (mixL i l)[i]? = some (false, a) := by
 obtain ⟨h1, rfl⟩ := List.getElem?_eq_some_iff.1 h
 unfold mixL
 rw [List.getElem?_append_right (by simp; omega)]
 simp [Nat.min_eq_left (Nat.le_of_lt h1)]
theorem mixL_set {i : Nat} {l : List X} {a : X} (h : l[i]? = some a) : (mixL i l).set i (true, a) = mixL (i + 1) l := by
 obtain ⟨h1, rfl⟩ := List.getElem?_eq_some_iff.1 h
 unfold mixL
 have hl : ((l.take i).map fun a => (true, a)).length = i := by simp; omega
 rw [List.set_append_right _ _ (by omega), hl, Nat.sub_self, List.drop_eq_getElem_cons h1, List.take_succ_eq_append_getElem h1, List.map_append, List.append_assoc]
 rfl
theorem mixL_zero {l : List X} : mixL 0 l = l.map fun a => (false, a) := by simp [mixL]
theorem mixL_all {i : Nat} {l : List X} (h : l.length ≤ i) : mixL i l = l.map fun a => (true, a) := by
 unfold mixL
 rw [List.take_of_length_le h, List.drop_of_length_le h]; simp
theorem SlO.conv {Y : Type} {fl : Bool → Prop} {ρ : X → List AV → Asr} {τ : Y → List AV → Asr} {es : Nat} {eT : TypeId} {v : AV} {l : List X} {f : X → Y} {h : Hp} {S : Nat → Prop} (hf : ∀ a ∈ l, ∀ row h S, ρ a row h S → τ (f a) row h S) (H : SlO fl ρ es eT v l h S) : SlO fl τ es eT v (l.map f) h S := by
 rcases H with ⟨rfl, H⟩ | ⟨x, h0, hn, r, rows, Ss, h1, h2, h3, h4, h5, h6, h7, h8⟩
 ·exact .inl ⟨rfl, H⟩
 ·refine .inr ⟨x, h0, by simpa using hn, r, rows, Ss, by rw [h1, List.length_map], h2, h3, by rw [h4, List.length_map], h5, h6, h7, fun i a row ha hr => ?_⟩
  rw [List.getElem?_map] at ha
  cases hb : l[i]? with
  | none => rw [hb] at ha; cases ha
  | some b => rw [hb] at ha; cases ha; exact hf b (List.mem_of_getElem? hb) row _ _ (h8 i b row hb hr)
theorem SlO.mix0 {fl : Bool → Prop} {ρ τ : X → List AV → Asr} {es : Nat} {eT : TypeId} {v : AV} {l : List X} {h : Hp} (H : SlO fl τ es eT v l h S) : SlO fl (mixR ρ τ) es eT v (mixL 0 l) h S := by
 rw [mixL_zero]
 exact H.conv fun _ _ _ _ _ h => h
theorem SlO.mixAll {fl : Bool → Prop} {ρ τ : X → List AV → Asr} {es i : Nat} {eT : TypeId} {v : AV} {l : List X} {h : Hp} (hi : l.length ≤ i) (H : SlO fl (mixR ρ τ) es eT v (mixL i l) h S) : SlO fl ρ es eT v l h S := by
 rw [mixL_all hi] at H
 have := H.conv (f := Prod.snd) (τ := ρ) fun q hq row h S hr => by
  obtain ⟨a, _, rfl⟩ := List.mem_map.1 hq
  exact hr
 rwa [List.map_map, show (Prod.snd ∘ fun a : X => (true, a)) = id from rfl, List.map_id] at this
theorem SlO.at {ρ : X → List AV → Asr} {es i : Nat} {eT : TypeId} {v : AV} {l : List X} {a : X} {h : Hp} (hρ : ∀ a row, Locl (ρ a row)) (H : SlO AnyF ρ es eT v l h S) (ha : l[i]? = some a) :
  ∃ (x : Bool) (r : Nat) (rows : List (List AV)) (row : List AV) (Si : Nat → Prop), v = .sl r 0 l.length l.length es x ∧ S r ∧ h.get r = some (.cells eT rows.flatten) ∧ RowsAt es rows ∧ rows[i]? = some row ∧ row.length = es ∧ (∀ s, Si s → S s ∧ s ≠ r) ∧ ρ a row h Si ∧
   ∀ (g : Hp) (T : Nat → Prop) (a' : X) (row' : List AV), row'.length = es → g.get r = some (.cells eT (rows.set i row').flatten) → (∀ s, S s → ¬ Si s → s ≠ r → g.get s = h.get s) → (∀ s, T s → Si s ∨ ¬ S s) → ρ a' row' g T → ∀ S', (∀ s, S s → S' s) → (∀ s, T s → S' s) → SlO AnyF ρ es eT v (l.set i a') g S' := by
 rcases H with ⟨rfl, H⟩ | ⟨x, h0, hn, H⟩
 ·simp at ha
 ·obtain ⟨r, rows, row, Si, q1, q2, q3, q4, q5, q6, q7, q8, q9⟩ := ArrS.at (xs := .mk l) hρ H ha
  refine ⟨x, r, rows, row, Si, q1, q2, q3, q4, q5, q6, q7, q8, fun g T a' row' e1 e2 e3 e4 e5 S' e6 e7 => .inr ⟨x, trivial, ?_, q9 g T a' row' e1 e2 e3 e4 e5 S' e6 e7⟩⟩
  intro e
  exact hn (List.eq_nil_of_length_eq_zero (by have := congrArg List.length e; simpa using this))
def TypO (fl : Bool → Prop) (x : LType) (row : List AV) (h : Hp) (S : Nat → Prop) : Prop := ∃ v, row = [.int .u8 x.kind, .int .i64 x.elem, .int .i64 x.many, v] ∧ IntO fl v x.parts.list h S
theorem TypO.locl {fl : Bool → Prop} (x : LType) (row : List AV) : Locl (TypO fl x row) := fun h g S S' ⟨v, h1, h2⟩ hS hg => ⟨v, h1, IntO.locl _ _ _ _ h2 hS hg⟩
set_option maxHeartbeats 2000000 in
theorem types_Twin_mem (hP : POk Tryz.prog F gl K) (t : Sl LType) (hlen : t.list.length < 1000000) (hp : ∀ x ∈ t.list, x.parts.list.length < 900000) (h0 : Hp) :
  CallsT Tryz.prog F h0 (fun v g => Wid h0 g ∧ ∃ S, (∀ s, S s → h0.nx ≤ s ∧ s < g.nx) ∧ SlO AnyF (TypO AnyF) 4 T_type v t.list g S) N_types_Twin [t.av LType.cells] := by
 refine CallsT.body hP nix_sound E_types_Twin rfl rfl ?_
 repeat' first | refine TW.seq ?_ | (refine TW.regG hP (by simp <;> rfl) ?_; dsimp only [goK])
 refine TO.ccall hP I_slices_Clone_api_Type_api_Type (Clone_types hP t (by omega) _) (by simp) rfl rfl rfl rfl (fun v g0 ⟨hw0, S0, hS0, hown0⟩ => ?_)
 refine TO.runsG hP (by simp <;> rfl) ?_
 try dsimp only [goK]
 obtain ⟨z1, z2, z3, z4⟩ := hown0.len
 have hlv := fun h => len_of (C := Ctx.of Tryz.prog gl K) (t := T_types) (h := h) z1 z2
 dsimp only [T_types] at hlv
 repeat' first | refine TW.seq ?_ | refine TW.block ?_ | (refine TW.regG hP (by simp [hlv] <;> rfl) ?_; dsimp only [goK])
 refine TW.loopL (fun i : Nat => [(3, v), (8, v), (9, .int .i64 t.list.length), (10, .int .i64 i)]) (fun i g => i ≤ t.list.length ∧ Wid h0 g ∧ ∃ S, (∀ s, S s → h0.nx ≤ s ∧ s < g.nx) ∧ SlO AnyF (mixR (TypO AnyF) (TR LType.cells)) 4 T_type v (mixL i t.list) g S) (fun i => t.list.length - i) (0) ?_ ?_ ?_
 focus (repeat' first | exact less_nil | refine less_cons (by simp) ?_)
 ·exact ⟨Nat.zero_le _, hw0, S0, hS0, hown0.mix0⟩
 rintro i g ⟨hi, hw, S, hS, hown⟩
 repeat' first | refine TW.seq ?_ | (refine TW.regG hP (by simp <;> rfl) ?_; dsimp only [goK])
 refine TW.cond hP rfl (fun hc => TW.skip ?_) (fun hc => TW.exit ?_)
 ·simp at hc
  obtain ⟨x, hx⟩ := get_of_lt hc
  obtain ⟨fx, r, rows, row, Si, hv, hrS, hgr, hrows, hri, hrl, hSi, hrow, wand⟩ := hown.at (mixR.locl TypO.locl TR.locl) (mixL_get hx)
  have hrow : row = x.cells := hrow
  subst hrow
  rw [mixL_len] at hv
  subst hv
  obtain ⟨hr1, hrn⟩ := hS r hrS
  dsimp only [thenQ]
  refine TW.seq ?_
  refine TW.block ?_
  have hL := fun t => load_arr0 (C := Ctx.of Tryz.prog gl K) (t := t) hgr hrows hri
  dsimp only [LType.cells] at hL hri
  refine TW.seq (TW.regG hP (by simp [hL, loadRow, sizeOk, hc] <;> rfl) ?_)
  dsimp only [goK, thenQ, blockQ, roundL]
  refine TW.gen (fun m => m.get g.nx = some (.cells T_type x.cells) ∧ Wid g m ∧ g.nx < m.nx) ⟨by simp, ((Wid.refl g).new _).put (by simp) _, by simp⟩ fun m hm => ?_
  obtain ⟨hm, hwm, hnm⟩ := hm
  dsimp only [T_type, LType.cells] at hm
  repeat' first | (refine TW.regG hP (by simp [hm] <;> rfl) ?_; dsimp only [goK])
  refine TO.ccall hP I_slices_Clone_int_int (Clone_ints hP x.parts (by have := hp x (List.mem_of_getElem? hx); omega) _) (by simp) rfl rfl rfl rfl (fun u m1 ⟨hw1, S1, hS1, hi1⟩ => ?_)
  have hw2 := hwm.trans hw1
  have hm1 : m1.get r = _ := (hw2.get r hrn).trans hgr
  obtain ⟨_, _, d1, d2⟩ := hi1.len
  have hSt := store1 (C := Ctx.of Tryz.prog gl K) (v := u) (o := 3) hm1 hrows hri d2 d1 (by omega)
  dsimp only [T_type] at hSt
  refine TO.runsG hP (by simp [hSt, -storeAt, sz1, hc] <;> rfl) ?_
  try dsimp only [goK]
  repeat' first | (refine TW.regG hP (by simp <;> rfl) ?_; dsimp only [goK]) | simp only [roundL]
  have hnx2 := hw2.nx
  have hnxm := hwm.nx
  have hnx0 := hw.nx
  refine ⟨i + 1, by omega, trivial, ?_, by omega, ?_, (fun s => S s ∨ S1 s), ?_, ?_⟩
  ·repeat' first | exact less_nil | refine less_cons (by simp [w64s (show i < 9000000000000000000 by omega)]) ?_
  ·refine ⟨by rw [nx_put]; omega, fun s hs => ?_⟩
   rw [get_put, if_neg (by omega), hw2.get s (by omega), hw.get s hs]
  ·rintro s (hs | hs)
   ·have := hS s hs; rw [nx_put]; omega
   ·have := hS1 s hs; rw [nx_put]; omega
  ·rw [← mixL_set hx]
   refine wand _ S1 (true, x) [.int .u8 x.kind, .int .i64 x.elem, .int .i64 x.many, u] rfl (by rw [get_put, if_pos rfl]) ?_ ?_ ?_ _ (fun s hs => .inl hs) (fun s hs => .inr hs)
   ·intro s h1 h2 h3
    rw [get_put, if_neg (Ne.symm h3), hw2.get s (hS s h1).2]
   ·intro s hs
    exact .inr fun h => by have := hS s h; have := hS1 s hs; omega
   ·refine ⟨u, rfl, IntO.locl _ _ _ _ hi1 (fun _ h => h) fun s hs => ?_⟩
    have := hS1 s hs
    rw [get_put, if_neg (by omega)]
 ·simp at hc
  dsimp only [thenQ]
  repeat' first | refine TW.seq ?_ | (refine TW.regG hP (by simp <;> rfl) ?_; dsimp only [goK]) | simp only [thenQ] | (refine TW.ret ⟨.inr rfl, _, _, rfl, rfl, ?_⟩; dsimp only [tupOf])
  exact ⟨hw, S, hS, hown.mixAll (by simpa using hc)⟩
theorem TypO.rig (x : LType) : RigL (TypO OffF x) (TypO AnyF x) := by
 rintro row1 h1 S1 row2 h2 S2 ⟨u, rfl, a2⟩ ⟨u', rfl, b2⟩
 obtain ⟨σ, U, H, hr⟩ := IntO.rig x.parts.list u h1 S1 u' h2 S2 a2 b2
 exact ⟨σ, U, H, .cons (.bare rfl) (.cons (.bare rfl) (.cons (.bare rfl) (.cons hr .nil)))⟩
theorem TypO.ex (x : LType) : ExL (TypO OffF x) := by
 intro h hw
 obtain ⟨u, h1, S, p1, p2, p3, p4⟩ := IntO.ex x.parts.list h hw
 exact ⟨_, h1, S, ⟨u, rfl, p1⟩, p2, p3, p4⟩
theorem TypO.len {fl : Bool → Prop} (x : LType) (row : List AV) (h : Hp) (S : Nat → Prop) (H : TypO fl x row h S) : row.length = 4 := by obtain ⟨_, rfl, _⟩ := H; rfl
theorem TR.len {enc : X → List AV} {es : Nat} (he : ∀ a, (enc a).length = es) (x : X) (row : List AV) (h : Hp) (S : Nat → Prop) (H : TR enc x row h S) : row.length = es := by have H : row = enc x := H; rw [H]; exact he x
theorem wf_up {g : Hp} (hw : ∀ r, g.nx ≤ r → g.get r = none) : ∀ r, g.up.nx ≤ r → g.up.get r = none := fun r hr => by
 rw [up_get]
 rw [up_nx] at hr
 exact hw r hr
theorem wid_up {g h : Hp} (hw : Wid g.up h) : Wid g h := ⟨by have := hw.nx; rwa [up_nx] at this, fun r hr => by have := hw.get r (by rw [up_nx]; exact hr); rwa [up_get] at this⟩
theorem tell_types (hP : POk Tryz.prog F gl K) (t : Sl LType) (hlen : t.list.length < 1000000) (hp : ∀ x ∈ t.list, x.parts.list.length < 900000) (h : Hp) (hlo : h.lo = h.nx) (hw : ∀ r, h.nx ≤ r → h.get r = none) :
  ∃ v h1 S, SlO OffF (TypO OffF) 4 T_type v t.list h1 S ∧ Wid h h1 ∧ (∀ r, h1.nx ≤ r → h1.get r = none) ∧ (∀ s, S s → h.nx ≤ s ∧ s < h1.nx) ∧ HpLe h h1 ∧ Calling Tryz.prog F h h1 v N_types_Twin [t.av LType.cells] ∧ h1.lo = h.nx ∧ h.nx < h1.nx :=
 tell_mem (B := fun v => SlO AnyF (TypO AnyF) 4 T_type v t.list) ((types_Twin_mem hP t hlen hp .e).mono fun v g ⟨_, S, _, H⟩ => ⟨S, H⟩) (by simp [noRefs, noRef_av nr_type]) (SlO.rig fun a _ => TypO.rig a) (SlO.ex TypO.locl TypO.len fun a _ => TypO.ex a) (fun v => SlO.locl TypO.locl) h hlo hw
theorem tell_funcs (hP : POk Tryz.prog F gl K) (t : Sl LFunc) (hlen : t.list.length ≤ 1000000) (h : Hp) (hlo : h.lo = h.nx) (hw : ∀ r, h.nx ≤ r → h.get r = none) :
  ∃ v h1 S, SlO OffF (TR LFunc.cells) 2 T_func v t.list h1 S ∧ Wid h h1 ∧ (∀ r, h1.nx ≤ r → h1.get r = none) ∧ (∀ s, S s → h.nx ≤ s ∧ s < h1.nx) ∧ HpLe h h1 ∧ Calling Tryz.prog F h h1 v N_slices_Clone_api_Func_api_Func [t.av LFunc.cells] ∧ h1.lo = h.nx ∧ h.nx < h1.nx :=
 tell_mem (B := fun v => SlO AnyF (TR LFunc.cells) 2 T_func v t.list) ((Clone_funcs hP t hlen .e).mono fun v g ⟨_, S, _, H⟩ => ⟨S, H⟩) (by simp [noRefs, noRef_av nr_func]) (SlO.rig fun a _ => TR.rig (fun a => nr_func a) a) (SlO.ex TR.locl (TR.len fun _ => rfl) fun a _ => TR.ex a) (fun v => SlO.locl TR.locl) h hlo hw
theorem tell_blocks (hP : POk Tryz.prog F gl K) (t : Sl LBlock) (hlen : t.list.length ≤ 1000000) (h : Hp) (hlo : h.lo = h.nx) (hw : ∀ r, h.nx ≤ r → h.get r = none) :
  ∃ v h1 S, SlO OffF (TR LBlock.cells) 5 T_block v t.list h1 S ∧ Wid h h1 ∧ (∀ r, h1.nx ≤ r → h1.get r = none) ∧ (∀ s, S s → h.nx ≤ s ∧ s < h1.nx) ∧ HpLe h h1 ∧ Calling Tryz.prog F h h1 v N_slices_Clone_api_Block_api_Block [t.av LBlock.cells] ∧ h1.lo = h.nx ∧ h.nx < h1.nx :=
 tell_mem (B := fun v => SlO AnyF (TR LBlock.cells) 5 T_block v t.list) ((Clone_blocks hP t hlen .e).mono fun v g ⟨_, S, _, H⟩ => ⟨S, H⟩) (by simp [noRefs, noRef_av nr_block]) (SlO.rig fun a _ => TR.rig (fun a => nr_block a) a) (SlO.ex TR.locl (TR.len fun _ => rfl) fun a _ => TR.ex a) (fun v => SlO.locl TR.locl) h hlo hw
theorem tell_ints (hP : POk Tryz.prog F gl K) (t : Sl Int) (hlen : t.list.length ≤ 1000000) (h : Hp) (hlo : h.lo = h.nx) (hw : ∀ r, h.nx ≤ r → h.get r = none) :
  ∃ v h1 S, IntO OffF v t.list h1 S ∧ Wid h h1 ∧ (∀ r, h1.nx ≤ r → h1.get r = none) ∧ (∀ s, S s → h.nx ≤ s ∧ s < h1.nx) ∧ HpLe h h1 ∧ Calling Tryz.prog F h h1 v N_slices_Clone_int_int [t.av cI] ∧ h1.lo = h.nx ∧ h.nx < h1.nx :=
 tell_mem (B := fun v => IntO AnyF v t.list) ((Clone_ints hP t hlen .e).mono fun v g ⟨_, S, _, H⟩ => ⟨S, H⟩) (by simp [noRefs, noRef_av (e := cI) (fun _ => rfl)]) (IntO.rig _) (IntO.ex _) (fun v => IntO.locl) h hlo hw
theorem prim_tellP {f : FuncId} {args : List AV} {h h1 : Hp} {v : AV} : (Ctx.of Tryz.prog gl ((K.tellP f args h v h1).tell [])).prim f args h = some (v, h1) := tellP_prim
theorem orc_tellP {f : FuncId} {args : List AV} {h h1 : Hp} {v : AV} : (Ctx.of Tryz.prog gl ((K.tellP f args h v h1).tell [])).orc f args = none := tellP_orc (K := K) (f := f) (args := args) (h := h) (h1 := h1) (v := v)
theorem prim_tellP2 {f g : FuncId} {args brgs : List AV} {h h1 k k1 : Hp} {v u : AV} (hne : ¬ (f = g ∧ args = brgs ∧ h = k)) : (Ctx.of Tryz.prog gl (((K.tellP f args h v h1).tellP g brgs k u k1).tell [])).prim f args h = some (v, h1) := by
 show ((K.tellP f args h v h1).tellP g brgs k u k1).prim f args h = _
 exact (if_neg hne).trans tellP_prim
theorem orc_tellP2 {f g : FuncId} {args brgs : List AV} {h h1 k k1 : Hp} {v u : AV} : (Ctx.of Tryz.prog gl (((K.tellP f args h v h1).tellP g brgs k u k1).tell [])).orc f args = none := by
 show ((K.tellP f args h v h1).tellP g brgs k u k1).orc f args = none
 by_cases q : f = g ∧ args = brgs
 ·obtain ⟨rfl, rfl⟩ := q; exact tellP_orc (h := k) (h1 := k1) (v := u)
 ·exact (if_neg q).trans (tellP_orc (h := h) (h1 := h1) (v := v))
set_option maxHeartbeats 4000000 in
theorem shape_Twin_mem (hV : Env F gl K) (p : LProg) (hs : SmallP p) (h0 : Hp) :
  CallsT Tryz.prog F h0 (fun v g => Wid h0 g ∧ ∃ tv fv ST SF, v = .agg [tv, fv] ∧ SlO AnyF (TypO AnyF) 4 T_type tv p.types.list g ST ∧ SlO AnyF (FunO AnyF) 2 T_func fv p.funcs.list g SF ∧ (∀ s, ST s → h0.nx ≤ s ∧ s < g.nx ∧ ¬ SF s) ∧ (∀ s, SF s → h0.nx ≤ s ∧ s < g.nx)) N_shape_Twin [.agg p.cells] := by
 have hP := hV.P
 have hnt := hs.nt
 have hnf := hs.nf
 refine CallsT.body hP nix_sound E_shape_Twin rfl rfl ?_
 refine TW.seq (TW.regG hP (by simp <;> rfl) ?_)
 dsimp only [goK, thenQ, blockQ, roundL]
 refine TW.gen (fun g => g.get h0.nx = some (.cells T_prog p.cells) ∧ (∃ a b, g.get (h0.nx + 1) = some (.cells T_prog [a, b])) ∧ Wid h0 g ∧ g.nx = h0.nx + 2) ⟨by simp, ⟨.nilsl, .nilsl, by simp⟩, ((Wid.refl h0).new _).new _, by simp⟩ fun g hg => ?_
 obtain ⟨hg0, ⟨za, zb, hg1⟩, hw0, hn0⟩ := hg
 dsimp only [T_prog, LProg.cells] at hg0 hg1
 refine TW.seq (TW.wf fun hwf => ?_)
 obtain ⟨tv, k1, S1, a1, a2, a3, a4, a5, a6, l1, m1⟩ := tell_types hP p.types (by omega) hs.parts g.up (by rw [up_lo, up_nx]) (wf_up hwf)
 rw [up_nx] at l1 m1
 obtain ⟨fv, k2, S2, b1, b2, b3, b4, b5, b6, l2, m2⟩ := tell_funcs hP p.funcs (by omega) k1.up (by rw [up_lo, up_nx]) (wf_up a3)
 rw [up_nx] at l2 m2
 have c1 := prim_tellP2 (gl := gl) (K := K) (f := N_types_Twin) (args := [p.types.av LType.cells]) (h := g.up) (v := tv) (h1 := k1) (g := N_slices_Clone_api_Func_api_Func) (brgs := [p.funcs.av LFunc.cells]) (k := k1.up) (u := fv) (k1 := k2) (fun h => absurd h.1 (by decide))
 have c2 := prim_tellP (gl := gl) (K := K.tellP N_types_Twin [p.types.av LType.cells] g.up tv k1) (f := N_slices_Clone_api_Func_api_Func) (args := [p.funcs.av LFunc.cells]) (h := k1.up) (v := fv) (h1 := k2)
 have o1 := orc_tellP2 (gl := gl) (K := K) (f := N_types_Twin) (args := [p.types.av LType.cells]) (h := g.up) (v := tv) (h1 := k1) (g := N_slices_Clone_api_Func_api_Func) (brgs := [p.funcs.av LFunc.cells]) (k := k1.up) (u := fv) (k1 := k2)
 have o2 := orc_tellP (gl := gl) (K := K.tellP N_types_Twin [p.types.av LType.cells] g.up tv k1) (f := N_slices_Clone_api_Func_api_Func) (args := [p.funcs.av LFunc.cells]) (h := k1.up) (v := fv) (h1 := k2)
 have hX := fun f a => (show (Ctx.of Tryz.prog gl (((K.tellP N_types_Twin [p.types.av LType.cells] g.up tv k1).tellP N_slices_Clone_api_Func_api_Func [p.funcs.av LFunc.cells] k1.up fv k2).tell [])).ext f a = none from hV.X f a)
 have g1 : k1.get h0.nx = _ := ((wid_up a2).get h0.nx (by omega)).trans hg0
 have g2 : k2.get h0.nx = _ := ((wid_up b2).get h0.nx (by have := (wid_up a2).nx; omega)).trans g1
 obtain ⟨_, _, d1, d2⟩ := a1.len
 obtain ⟨_, _, d3, d4⟩ := b1.len
 have hP2 := pok_tellP (pok_tellP hP a5 a6) b5 b6
 refine TW.drawH hP2 [] (fun e he => by cases he) [0, 1, 3, 0, 8, 31, 31, 127, 255, 511] (by kernel_rfl) (by kernel_rfl) (by simp [hX, c1, c2, o1, o2, hg0, g1, g2, d1, d2, d3, d4, l1, l2, (show ¬ g.nx ≤ h0.nx by omega), (show ¬ k1.nx ≤ h0.nx by have := (wid_up a2).nx; omega), N_types_Twin, G_types_Twin, B_types_Twin, N_slices_Clone_api_Func_api_Func, G_slices_Clone_api_Func_api_Func, B_slices_Clone_api_Func_api_Func, oneD, fpAt, fpOf, refOf, ldOf, fpNext, clashFree, FP.clash, FP.hard, FP.soft, overlap, inR, inMask, sameO, Nat.testBit] <;> rfl) ?_
 dsimp only [okD, thenQ]
 have n1 := (wid_up a2).nx
 have n2 := (wid_up b2).nx
 have e1 := a1.any (τ := TypO AnyF) fun a row h S ⟨u, q1, q2⟩ => ⟨u, q1, q2.any⟩
 have e2 := b1.any (τ := TR LFunc.cells) fun _ _ _ _ h => h
 refine TW.gen (fun m => m.get h0.nx = some (.cells T_prog [tv, fv]) ∧ m.get (h0.nx + 1) = some (.cells T_prog [za, zb]) ∧ Wid h0 m ∧ h0.nx + 2 ≤ m.nx ∧ ∃ ST SF, SlO AnyF (TypO AnyF) 4 T_type tv p.types.list m ST ∧ SlO AnyF (TR LFunc.cells) 2 T_func fv p.funcs.list m SF ∧ (∀ s, ST s → h0.nx + 2 ≤ s ∧ s < m.nx ∧ ¬ SF s) ∧ (∀ s, SF s → h0.nx + 2 ≤ s ∧ s < m.nx)) ⟨?_, ?_, ?_, ?_, S1, S2, ?_, ?_, ?_, ?_⟩ fun m hm => ?_
 ·rw [get_z, get_put, if_pos rfl]
 ·rw [get_z, get_put, if_neg (by omega), get_put, if_neg (by omega), (wid_up b2).get _ (by omega), (wid_up a2).get _ (by omega)]; exact hg1
 ·refine ⟨by rw [nx_z, nx_put, nx_put]; omega, fun s hs => ?_⟩
  rw [get_z, get_put, if_neg (by omega), get_put, if_neg (by omega), (wid_up b2).get _ (by omega), (wid_up a2).get _ (by omega)]; exact hw0.get s hs
 ·rw [nx_z, nx_put, nx_put]; omega
 ·refine SlO.locl TypO.locl _ _ _ _ e1 (fun _ h => h) fun s hs => ?_
  have := a4 s hs
  rw [up_nx] at this
  rw [get_z, get_put, if_neg (by omega), get_put, if_neg (by omega), (wid_up b2).get _ (by omega)]
 ·refine SlO.locl TR.locl _ _ _ _ e2 (fun _ h => h) fun s hs => ?_
  have := b4 s hs
  rw [up_nx] at this
  rw [get_z, get_put, if_neg (by omega), get_put, if_neg (by omega)]
 ·intro s hs
  have := a4 s hs
  rw [up_nx] at this
  refine ⟨by omega, by rw [nx_z, nx_put, nx_put]; omega, fun h => ?_⟩
  have := b4 s h
  rw [up_nx] at this
  omega
 ·intro s hs
  have := b4 s hs
  rw [up_nx] at this
  exact ⟨by omega, by rw [nx_z, nx_put, nx_put]; omega⟩
 clear c1 c2 o1 o2 hX hP2 a5 a6 b5 b6 g1 g2 hg0 hg1 hw0 hwf a2 b2 a3 b3 a4 b4 a1 b1 e1 e2
 obtain ⟨q0, q1, hwm, hnm, ST, SF, hT, hF, hST, hSF⟩ := hm
 dsimp only [T_prog] at q0 q1
 obtain ⟨z1, z2, z3, z4⟩ := hF.len
 have hlv := fun h => len_of (C := Ctx.of Tryz.prog gl K) (t := T_funcs) (h := h) z1 z2
 dsimp only [T_funcs] at hlv
 repeat' first | refine TW.seq ?_ | refine TW.block ?_ | (refine TW.regG hP (by simp [q0, hlv] <;> rfl) ?_; dsimp only [goK])
 refine TW.loopL (fun i : Nat => [(1, .ptr h0.nx 0), (2, .ptr (h0.nx + 1) 0), (19, fv), (20, .int .i64 p.funcs.list.length), (21, .int .i64 i)]) (fun i g => i ≤ p.funcs.list.length ∧ g.get h0.nx = some (.cells T_prog [tv, fv]) ∧ g.get (h0.nx + 1) = some (.cells T_prog [za, zb]) ∧ Wid h0 g ∧ h0.nx + 2 ≤ g.nx ∧ ∃ ST SF, SlO AnyF (TypO AnyF) 4 T_type tv p.types.list g ST ∧ SlO AnyF (mixR (FunO AnyF) (TR LFunc.cells)) 2 T_func fv (mixL i p.funcs.list) g SF ∧ (∀ s, ST s → h0.nx + 2 ≤ s ∧ s < g.nx ∧ ¬ SF s) ∧ (∀ s, SF s → h0.nx + 2 ≤ s ∧ s < g.nx)) (fun i => p.funcs.list.length - i) (0) ?_ ?_ ?_
 focus (repeat' first | exact less_nil | refine less_cons (by simp) ?_)
 ·exact ⟨Nat.zero_le _, q0, q1, hwm, hnm, ST, SF, hT, hF.mix0, hST, hSF⟩
 clear hT hF hST hSF ST SF q0 q1 hwm hnm m
 rintro i g ⟨hi, q0, q1, hw, hng, ST, SF, hT, hF, hST, hSF⟩
 dsimp only [T_prog] at q0 q1
 repeat' first | refine TW.seq ?_ | (refine TW.regG hP (by simp <;> rfl) ?_; dsimp only [goK])
 refine TW.cond hP rfl (fun hc => TW.skip ?_) (fun hc => TW.exit ?_)
 ·simp at hc
  have hci := hc
  obtain ⟨x, hx⟩ := get_of_lt hc
  have hxs := hs.funcs x (List.mem_of_getElem? hx)
  obtain ⟨hbl, hbb⟩ := hxs.blk
  obtain ⟨fx, r, rows, row, Si, hv, hrS, hgr, hrows, hri, hrl, hSi, hrow, wand⟩ := hF.at (mixR.locl FunO.locl TR.locl) (mixL_get hx)
  have hrow : row = x.cells := hrow
  subst hrow
  rw [mixL_len] at hv
  subst hv
  obtain ⟨hr1, hrn⟩ := hSF r hrS
  have hL := fun t => load_arr0 (C := Ctx.of Tryz.prog gl K) (t := t) hgr hrows hri
  dsimp only [LFunc.cells] at hL hri
  dsimp only [thenQ]
  refine TW.seq ?_
  refine TW.block ?_
  refine TW.seq (TW.regG hP (by simp [hL, loadRow, sizeOk, hc] <;> rfl) ?_)
  dsimp only [goK, thenQ, blockQ, roundL]
  refine TW.gen (fun m => m.get g.nx = some (.cells T_func x.cells) ∧ Wid g m ∧ m.nx = g.nx + 1) ⟨by simp, ((Wid.refl g).new _).put (by simp) _, by simp⟩ fun m hm => ?_
  obtain ⟨hm, hwm, hnm⟩ := hm
  dsimp only [T_func, LFunc.cells] at hm
  refine TW.seq (TW.wf fun hwf => ?_)
  obtain ⟨bv, k, SB, a1, a2, a3, a4, a5, a6, l1, m1⟩ := tell_blocks hP x.blocks (by omega) m.up (by rw [up_lo, up_nx]) (wf_up hwf)
  rw [up_nx] at l1 m1
  have c1 := prim_tellP (gl := gl) (K := K) (f := N_slices_Clone_api_Block_api_Block) (args := [x.blocks.av LBlock.cells]) (h := m.up) (v := bv) (h1 := k)
  have o1 := orc_tellP (gl := gl) (K := K) (f := N_slices_Clone_api_Block_api_Block) (args := [x.blocks.av LBlock.cells]) (h := m.up) (v := bv) (h1 := k)
  have hX := fun f a => (show (Ctx.of Tryz.prog gl ((K.tellP N_slices_Clone_api_Block_api_Block [x.blocks.av LBlock.cells] m.up bv k).tell [])).ext f a = none from hV.X f a)
  obtain ⟨_, _, d1, d2⟩ := a1.len
  have p0 : m.get h0.nx = _ := (hwm.get h0.nx (by omega)).trans q0
  have pk : k.get h0.nx = _ := ((wid_up a2).get h0.nx (by omega)).trans p0
  have kr : k.get r = _ := ((wid_up a2).get r (by omega)).trans ((hwm.get r hrn).trans hgr)
  have km : k.get g.nx = _ := ((wid_up a2).get g.nx (by omega)).trans hm
  have hSt := store1 (h := k.up) (C := Ctx.of Tryz.prog gl ((K.tellP N_slices_Clone_api_Block_api_Block [x.blocks.av LBlock.cells] m.up bv k).tell [])) (v := bv) (o := 1) (by rw [up_get]; exact kr) hrows hri d2 d1 (by omega)
  dsimp only [T_func] at hSt
  refine TW.drawH (pok_tellP hP a5 a6) [] (fun e he => by cases he) [0, 1, 0, 0, 8, 24, 63, 127, 255] (by kernel_rfl) (by kernel_rfl) (by simp [hX, c1, o1, p0, pk, hm, km, l1, hSt, -storeAt, sz1, hci, (show ¬ m.nx ≤ g.nx by omega), (show ¬ m.nx ≤ r by omega), (show ¬ r = h0.nx by omega), (show ¬ r = g.nx by omega), N_slices_Clone_api_Block_api_Block, G_slices_Clone_api_Block_api_Block, B_slices_Clone_api_Block_api_Block, oneD, fpAt, fpOf, refOf, ldOf, fpNext, clashFree, FP.clash, FP.hard, FP.soft, overlap, inR, inMask, sameO, Nat.testBit] <;> rfl) ?_
  dsimp only [okD, thenQ]
  have kn := (wid_up a2).nx
  have e1 := a1.any (τ := TR LBlock.cells) fun _ _ _ _ h => h
  refine TW.gen (fun m' => m'.get h0.nx = some (.cells T_prog [tv, .sl r 0 p.funcs.list.length p.funcs.list.length 2 fx]) ∧ m'.get g.nx = some (.cells T_func x.cells) ∧ m'.get r = some (.cells T_func (rows.set i [.int .i64 x.sig, bv]).flatten) ∧ (∀ s, s < g.nx → s ≠ r → m'.get s = g.get s) ∧ g.nx < m'.nx ∧ SlO AnyF (TR LBlock.cells) 5 T_block bv x.blocks.list m' SB ∧ (∀ s, SB s → g.nx < s ∧ s < m'.nx)) ⟨?_, ?_, ?_, ?_, ?_, ?_, ?_⟩ fun m' hm' => ?_
  ·rw [get_z, get_put, if_neg (by omega)]; exact pk
  ·rw [get_z, get_put, if_neg (by omega)]; exact km
  ·rw [get_z, get_put, if_pos rfl]
  ·intro s h1 h2
   rw [get_z, get_put, if_neg (Ne.symm h2), (wid_up a2).get s (by omega), hwm.get s h1]
  ·rw [nx_z, nx_put]; omega
  ·refine SlO.locl TR.locl _ _ _ _ e1 (fun _ h => h) fun s hs => ?_
   have := a4 s hs
   rw [up_nx] at this
   rw [get_z, get_put, if_neg (by omega)]
  ·intro s hs
   have := a4 s hs
   rw [up_nx] at this
   rw [nx_z, nx_put]; omega
  clear c1 o1 hX hSt e1 a1 a2 a3 a4 a5 a6 pk kr km p0 l1 m1 hm hwm hnm hwf kn k m
  obtain ⟨w0, w1, w2, w3, w4, w5, w6⟩ := hm'
  dsimp only [T_prog, T_func, LFunc.cells] at w0 w1 w2
  repeat' first | refine TW.seq ?_ | refine TW.block ?_ | (refine TW.regG hP (by simp [w1] <;> rfl) ?_; dsimp only [goK])
  refine TW.loopL (fun kk : Nat => [(1, .ptr h0.nx 0), (2, .ptr (h0.nx + 1) 0), (3, .int .i64 i), (4, .ptr g.nx 0), (19, .sl r 0 p.funcs.list.length p.funcs.list.length 2 fx), (20, .int .i64 p.funcs.list.length), (21, .int .i64 i), (35, x.blocks.av LBlock.cells), (36, .int .i64 x.blocks.list.length), (37, .int .i64 kk)]) (fun kk m => kk ≤ x.blocks.list.length ∧ m.get h0.nx = some (.cells T_prog [tv, .sl r 0 p.funcs.list.length p.funcs.list.length 2 fx]) ∧ m.get r = some (.cells T_func (rows.set i [.int .i64 x.sig, bv]).flatten) ∧ (∀ s, s < g.nx → s ≠ r → m.get s = g.get s) ∧ g.nx < m.nx ∧ ∃ SB, SlO AnyF (mixR (BlkO AnyF) (TR LBlock.cells)) 5 T_block bv (mixL kk x.blocks.list) m SB ∧ (∀ s, SB s → g.nx < s ∧ s < m.nx)) (fun kk => x.blocks.list.length - kk) (0) ?_ ?_ ?_
  focus (repeat' first | exact less_nil | refine less_cons (by simp) ?_)
  ·exact ⟨Nat.zero_le _, w0, w2, w3, w4, SB, w5.mix0, w6⟩
  clear w0 w1 w2 w3 w4 w5 w6 SB m'
  rintro kk m ⟨hkk, w0, w2, w3, w4, SB, w5, w6⟩
  dsimp only [T_prog, T_func] at w0 w2
  repeat' first | refine TW.seq ?_ | (refine TW.regG hP (by simp <;> rfl) ?_; dsimp only [goK])
  refine TW.cond hP rfl (fun hc => TW.skip ?_) (fun hc => TW.exit ?_)
  ·simp at hc
   have hck := hc
   obtain ⟨b, hb⟩ := get_of_lt hc
   have hav := av_pos (e := LBlock.cells) (show 0 < x.blocks.list.length by omega)
   obtain ⟨hb1, hb2⟩ := hbb b (List.mem_of_getElem? hb)
   obtain ⟨fb, rb, rowsb, rowb, Sbi, hvb, hrbS, hgrb, hrowsb, hrib, hrlb, hSbi, hrowb, wandb⟩ := w5.at (mixR.locl BlkO.locl TR.locl) (mixL_get hb)
   have hrowb : rowb = b.cells := hrowb
   subst hrowb
   rw [mixL_len] at hvb
   subst hvb
   obtain ⟨hrb1, hrbn⟩ := w6 rb hrbS
   dsimp only [thenQ]
   refine TW.seq ?_
   refine TW.block ?_
   refine TW.seq (TW.regG hP (by simp [hb, hav] <;> rfl) ?_)
   dsimp only [goK, thenQ, blockQ, roundL]
   refine TW.gen (fun k => k.get m.nx = some (.cells T_block b.cells) ∧ Wid m k ∧ k.nx = m.nx + 1) ⟨by simp, ((Wid.refl m).new _).put (by simp) _, by simp⟩ fun k hk => ?_
   obtain ⟨hk, hwk, hnk⟩ := hk
   dsimp only [T_block, LBlock.cells] at hk
   repeat' first | refine TW.seq ?_ | (refine TW.regG hP (by simp [hk] <;> rfl) ?_; dsimp only [goK])
   refine TO.ccall hP I_slices_Clone_api_Ins_api_Ins (Clone_inss hP b.ins (by omega) _) (by simp) rfl rfl rfl rfl (fun lv bz ⟨hwz, SI, hSI, hIz⟩ => ?_)
   refine TO.runsG hP (by simp <;> rfl) ?_
   try dsimp only [goK]
   obtain ⟨y1, y2, y3, y4⟩ := hIz.len
   have hlu := fun h => len_of (C := Ctx.of Tryz.prog gl K) (t := T_inss) (h := h) y1 y2
   dsimp only [T_inss] at hlu
   repeat' first | refine TW.seq ?_ | refine TW.block ?_ | (refine TW.regG hP (by simp [hlu] <;> rfl) ?_; dsimp only [goK])
   refine TW.loopL (fun j : Nat => [(1, .ptr h0.nx 0), (2, .ptr (h0.nx + 1) 0), (3, .int .i64 i), (4, .ptr g.nx 0), (5, .int .i64 kk), (7, lv), (19, .sl r 0 p.funcs.list.length p.funcs.list.length 2 fx), (20, .int .i64 p.funcs.list.length), (21, .int .i64 i), (35, x.blocks.av LBlock.cells), (36, .int .i64 x.blocks.list.length), (37, .int .i64 kk), (45, lv), (46, .int .i64 b.ins.list.length), (47, .int .i64 j)]) (fun j m' => j ≤ b.ins.list.length ∧ Wid k m' ∧ ∃ T, (∀ s, T s → k.nx ≤ s ∧ s < m'.nx) ∧ SlO AnyF (mixR (InsO OffF) (TR LIns.cells)) 7 T_ins lv (mixL j b.ins.list) m' T) (fun j => b.ins.list.length - j) (0) ?_ ?_ ?_
   focus (repeat' first | exact less_nil | refine less_cons (by simp [hav]) ?_)
   ·exact ⟨Nat.zero_le _, hwz, SI, hSI, hIz.mix0⟩
   rintro j b0 ⟨hj, hwb, T, hT, hI⟩
   repeat' first | refine TW.seq ?_ | (refine TW.regG hP (by simp <;> rfl) ?_; dsimp only [goK])
   refine TW.cond hP rfl (fun hc => TW.skip ?_) (fun hc => TW.exit ?_)
   ·simp at hc
    have hcj := hc
    obtain ⟨y, hy⟩ := get_of_lt hc
    obtain ⟨hy1, hy2⟩ := hb2 y (List.mem_of_getElem? hy)
    obtain ⟨fi, q, rows2, row2, Sj, hvi, hqT, hgq, hrows2, hrj, hrl2, hSj, hrow2, wand2⟩ := hI.at (mixR.locl InsO.locl TR.locl) (mixL_get hy)
    have hrow2 : row2 = y.cells := hrow2
    subst hrow2
    rw [mixL_len] at hvi
    subst hvi
    obtain ⟨hq1, hqn⟩ := hT q hqT
    have hL2 := fun t => load_arr0 (C := Ctx.of Tryz.prog gl K) (t := t) hgq hrows2 hrj
    dsimp only [LIns.cells] at hL2 hrj
    dsimp only [thenQ]
    refine TW.seq ?_
    refine TW.block ?_
    refine TW.seq (TW.regG hP (by simp [hL2, loadRow, sizeOk, hc] <;> rfl) ?_)
    dsimp only [goK, thenQ, blockQ, roundL]
    refine TW.gen (fun u => u.get b0.nx = some (.cells T_ins y.cells) ∧ Wid b0 u ∧ u.nx = b0.nx + 1) ⟨by simp, ((Wid.refl b0).new _).put (by simp) _, by simp⟩ fun u hu => ?_
    obtain ⟨hu, hwu, hnu⟩ := hu
    dsimp only [T_ins, LIns.cells] at hu
    refine TW.wf fun hwf => ?_
    obtain ⟨va, k1, Sa, a1, a2, a3, a4, a5, a6, l1, m1⟩ := tell_ints hP y.args (by omega) u.up (by rw [up_lo, up_nx]) (wf_up hwf)
    rw [up_nx] at l1 m1
    obtain ⟨vf, k2, Sf, b1, b2, b3, b4, b5, b6, l2, m2⟩ := tell_ints hP y.frm (by omega) k1.up (by rw [up_lo, up_nx]) (wf_up a3)
    rw [up_nx] at l2 m2
    have c1 := prim_tellP2 (gl := gl) (K := K) (f := N_slices_Clone_int_int) (args := [y.args.av cI]) (h := u.up) (v := va) (h1 := k1) (g := N_slices_Clone_int_int) (brgs := [y.frm.av cI]) (k := k1.up) (u := vf) (k1 := k2) (fun h => by have := congrArg Hp.nx h.2.2; rw [up_nx, up_nx] at this; omega)
    have c2 := prim_tellP (gl := gl) (K := K.tellP N_slices_Clone_int_int [y.args.av cI] u.up va k1) (f := N_slices_Clone_int_int) (args := [y.frm.av cI]) (h := k1.up) (v := vf) (h1 := k2)
    have o1 := orc_tellP2 (gl := gl) (K := K) (f := N_slices_Clone_int_int) (args := [y.args.av cI]) (h := u.up) (v := va) (h1 := k1) (g := N_slices_Clone_int_int) (brgs := [y.frm.av cI]) (k := k1.up) (u := vf) (k1 := k2)
    have o2 := orc_tellP (gl := gl) (K := K.tellP N_slices_Clone_int_int [y.args.av cI] u.up va k1) (f := N_slices_Clone_int_int) (args := [y.frm.av cI]) (h := k1.up) (v := vf) (h1 := k2)
    have hX := fun f a => (show (Ctx.of Tryz.prog gl (((K.tellP N_slices_Clone_int_int [y.args.av cI] u.up va k1).tellP N_slices_Clone_int_int [y.frm.av cI] k1.up vf k2).tell [])).ext f a = none from hV.X f a)
    obtain ⟨_, _, f1, f2⟩ := a1.len
    obtain ⟨_, _, f3, f4⟩ := b1.len
    have n1 := (wid_up a2).nx
    have n2 := (wid_up b2).nx
    have nb := hwb.nx
    have u1 : k1.get b0.nx = _ := ((wid_up a2).get b0.nx (by omega)).trans hu
    have u2 : k2.get b0.nx = _ := ((wid_up b2).get b0.nx (by omega)).trans u1
    have uq : u.get q = _ := (hwu.get q hqn).trans hgq
    have kq : k2.get q = _ := ((wid_up b2).get q (by omega)).trans (((wid_up a2).get q (by omega)).trans uq)
    have hSt := store1 (h := k2.up) (C := Ctx.of Tryz.prog gl (((K.tellP N_slices_Clone_int_int [y.args.av cI] u.up va k1).tellP N_slices_Clone_int_int [y.frm.av cI] k1.up vf k2).tell [])) (v := va) (o := 5) (by rw [up_get]; exact kq) hrows2 hrj f2 f1 (by omega)
    have hSu := store1 (h := (k2.put q (.cells T_ins (rows2.set j [.int .u8 y.op, .int .i64 y.type, .int .i64 y.a, .int .i64 y.b, .int .i64 y.n, va, y.frm.av cI]).flatten)).up) (C := Ctx.of Tryz.prog gl (((K.tellP N_slices_Clone_int_int [y.args.av cI] u.up va k1).tellP N_slices_Clone_int_int [y.frm.av cI] k1.up vf k2).tell [])) (v := vf) (o := 6) (by rw [up_get, get_put, if_pos rfl]) (rows_set hrows2 rfl) (get_set' hrj) f4 f3 (by omega)
    dsimp only [T_ins] at hSt hSu
    refine TW.drawH (pok_tellP (pok_tellP hP a5 a6) b5 b6) [] (fun e he => by cases he) [0, 0, 0, 0, 0, 16, 48, 0, 128, 496, 1011, 2035, 4083, 8191, 16383, 32767] (by kernel_rfl) (by kernel_rfl) (by simp [hX, c1, c2, o1, o2, hu, u1, u2, l1, l2, hSt, hSu, -storeAt, sz1, hcj, (show ¬ u.nx ≤ b0.nx by omega), (show ¬ u.nx ≤ q by omega), (show ¬ k1.nx ≤ q by omega), (show ¬ k2.nx ≤ q by omega), (show ¬ q = b0.nx by omega), N_slices_Clone_int_int, G_slices_Clone_int_int, B_slices_Clone_int_int, oneD, fpAt, fpOf, refOf, ldOf, fpNext, clashFree, FP.clash, FP.hard, FP.soft, overlap, inR, inMask, sameO, Nat.testBit] <;> rfl) ?_
    dsimp only [okD, thenQ, blockQ]
    repeat' first | (refine TW.regG hP (by simp <;> rfl) ?_; dsimp only [goK]) | simp only [roundL]
    have a4' : ∀ s, Sa s → u.nx ≤ s ∧ s < k1.nx := fun s hs => by have := a4 s hs; rw [up_nx] at this; exact this
    have b4' : ∀ s, Sf s → k1.nx ≤ s ∧ s < k2.nx := fun s hs => by have := b4 s hs; rw [up_nx] at this; exact this
    refine ⟨j + 1, by omega, trivial, ?_, by omega, ⟨by rw [nx_z, nx_put, nx_put]; omega, fun s hs => ?_⟩, (fun s => T s ∨ Sa s ∨ Sf s), ?_, ?_⟩
    ·repeat' first | exact less_nil | refine less_cons (by simp [hav, w64s (show j < 9000000000000000000 by omega)]) ?_
    ·rw [get_z, get_put, if_neg (by omega), get_put, if_neg (by omega), (wid_up b2).get s (by omega), (wid_up a2).get s (by omega), hwu.get s (by omega), hwb.get s hs]
    ·rintro s (hs | hs | hs)
     ·have := hT s hs; rw [nx_z, nx_put, nx_put]; omega
     ·have := a4' s hs; rw [nx_z, nx_put, nx_put]; omega
     ·have := b4' s hs; rw [nx_z, nx_put, nx_put]; omega
    ·rw [← mixL_set hy]
     refine wand2 _ (fun s => Sa s ∨ Sf s) (true, y) [.int .u8 y.op, .int .i64 y.type, .int .i64 y.a, .int .i64 y.b, .int .i64 y.n, va, vf] rfl (by simp [get_put]) ?_ ?_ ?_ _ (fun s hs => .inl hs) (fun s hs => .inr hs)
     ·intro s h1 h2 h3
      have := hT s h1
      rw [get_z, get_put, if_neg (Ne.symm h3), get_put, if_neg (Ne.symm h3), (wid_up b2).get s (by omega), (wid_up a2).get s (by omega), hwu.get s (by omega)]
     ·rintro s (hs | hs)
      ·exact .inr fun h => by have := hT s h; have := a4' s hs; omega
      ·exact .inr fun h => by have := hT s h; have := b4' s hs; omega
     ·refine ⟨va, vf, Sa, Sf, rfl, IntO.locl _ _ _ _ a1 (fun _ h => h) fun s hs => ?_, IntO.locl _ _ _ _ b1 (fun _ h => h) fun s hs => ?_, fun s hs => ⟨.inl hs, fun h => by have := a4' s hs; have := b4' s h; omega⟩, fun s hs => .inr hs⟩
      ·have := a4' s hs
       rw [get_z, get_put, if_neg (by omega), get_put, if_neg (by omega), (wid_up b2).get s (by omega)]
      ·have := b4' s hs
       rw [get_z, get_put, if_neg (by omega), get_put, if_neg (by omega)]
   ·simp at hc
    have nb := hwb.nx
    have v0 : b0.get h0.nx = _ := (hwb.get h0.nx (by omega)).trans ((hwk.get h0.nx (by omega)).trans w0)
    have vr : b0.get r = _ := (hwb.get r (by omega)).trans ((hwk.get r (by omega)).trans w2)
    have vb : b0.get rb = _ := (hwb.get rb (by omega)).trans ((hwk.get rb (by omega)).trans hgrb)
    have hLr := fun t o => load_arr (C := Ctx.of Tryz.prog gl K) (t := t) (o := o) vr (rows_set hrows rfl) (get_set' hri)
    have hSt := store10 (h := b0) (C := Ctx.of Tryz.prog gl K) (v := lv) vb hrowsb hrib y4 y3 (by omega)
    dsimp only [T_block, LBlock.cells] at hSt
    have hI2 := hI.mixAll (by simpa using hc)
    dsimp only [thenQ]
    repeat' first | (refine TW.regG hP (by simp [v0, hLr, loadRow, sizeOk, hSt, -storeAt, sz1, hci, hck] <;> rfl) ?_; dsimp only [goK]) | simp only [roundL]
    refine ⟨kk + 1, by omega, trivial, ?_, by omega, ?_, ?_, ?_, by rw [nx_put]; omega, (fun s => SB s ∨ T s), ?_, ?_⟩
    ·repeat' first | exact less_nil | refine less_cons (by simp [hav, w64s (show kk < 9000000000000000000 by omega)]) ?_
    ·rw [get_put, if_neg (by omega)]; exact v0
    ·rw [get_put, if_neg (by omega)]; exact vr
    ·intro s h1 h2
     rw [get_put, if_neg (by omega), hwb.get s (by omega), hwk.get s (by omega), w3 s h1 h2]
    ·rw [← mixL_set hb]
     refine wandb _ T (true, b) (lv :: b.ed.cells) rfl (by rw [get_put, if_pos rfl]; rfl) ?_ ?_ ?_ _ (fun s hs => .inl hs) (fun s hs => .inr hs)
     ·intro s h1 h2 h3
      have := w6 s h1
      rw [get_put, if_neg (Ne.symm h3), hwb.get s (by omega), hwk.get s (by omega)]
     ·intro s hs
      exact .inr fun h => by have := w6 s h; have := hT s hs; omega
     ·refine ⟨lv, rfl, SlO.locl InsO.locl _ _ _ _ hI2 (fun _ h => h) fun s hs => ?_⟩
      have := hT s hs
      rw [get_put, if_neg (by omega)]
    ·rintro s (hs | hs)
     ·have := w6 s hs; rw [nx_put]; omega
     ·have := hT s hs; rw [nx_put]; omega
  ·simp at hc
   have w7 := w5.mixAll (by simpa using hc)
   dsimp only [thenQ]
   repeat' first | (refine TW.regG hP (by simp <;> rfl) ?_; dsimp only [goK]) | simp only [roundL]
   refine ⟨i + 1, by omega, trivial, ?_, by omega, w0, ?_, ?_, by omega, ST, (fun s => SF s ∨ SB s), ?_, ?_, ?_, ?_⟩
   ·repeat' first | exact less_nil | refine less_cons (by simp [w64s (show i < 9000000000000000000 by omega)]) ?_
   ·exact (w3 _ (by omega) (by omega)).trans q1
   ·exact ⟨by have := hw.nx; omega, fun s hs => (w3 s (by omega) (by omega)).trans (hw.get s hs)⟩
   ·exact SlO.locl TypO.locl _ _ _ _ hT (fun _ h => h) fun s hs => w3 s (hST s hs).2.1 fun e => (hST s hs).2.2 (e ▸ hrS)
   ·rw [← mixL_set hx]
    refine wand _ SB (true, x) [.int .i64 x.sig, bv] rfl w2 (fun s h1 _ h3 => w3 s (hSF s h1).2 h3) (fun s hs => .inr fun h => by have := hSF s h; have := w6 s hs; omega) ⟨bv, rfl, w7⟩ _ (fun s hs => .inl hs) (fun s hs => .inr hs)
   ·intro s hs
    have := hST s hs
    exact ⟨this.1, by omega, fun h => h.elim this.2.2 fun h => by have := w6 s h; omega⟩
   ·rintro s (hs | hs)
    ·have := hSF s hs; omega
    ·have := w6 s hs; omega
 ·simp at hc
  dsimp only [thenQ]
  repeat' first | refine TW.seq ?_ | (refine TW.regG hP (by simp [q0, q1, d1, d3] <;> rfl) ?_; dsimp only [goK]) | simp only [thenQ]
  refine TW.ret ⟨.inr rfl, _, [.agg [tv, fv]], rfl, by simp [resK, get_put], ?_⟩
  refine ⟨hw.put (by omega) _, tv, fv, ST, SF, rfl, ?_, ?_, ?_, ?_⟩
  ·refine SlO.locl TypO.locl _ _ _ _ hT (fun _ h => h) fun s hs => ?_
   rw [get_put, if_neg (by have := hST s hs; omega)]
  ·refine SlO.locl FunO.locl _ _ _ _ (hF.mixAll (by simpa using hc)) (fun _ h => h) fun s hs => ?_
   rw [get_put, if_neg (by have := hSF s hs; omega)]
  ·intro s hs
   have := hST s hs
   exact ⟨by omega, by rw [nx_put]; omega, this.2.2⟩
  ·intro s hs
   have := hSF s hs
   exact ⟨by omega, by rw [nx_put]; omega⟩
structure Open (h0 : Hp) (p : LProg) (f : Nat) (x : LFunc) (v : AV) (q : Nat) (bv : AV) (g : Hp) (Sb : Nat → Prop) (W : Nat → Prop) : Prop where
 obj : g.get q = some (.cells 69 [.int .i64 (sigParts p x), bv])
 q0 : h0.nx ≤ q ∧ q < g.nx ∧ ¬ W q
 blk : SlO AnyF (BlkO AnyF) 5 T_block bv x.blocks.list g Sb
 sub : ∀ s, Sb s → W s
 rng : ∀ s, W s → h0.nx ≤ s ∧ s < g.nx
 close : ∀ (g' : Hp) (bl : List LBlock) (Sb' : Nat → Prop), (∀ s, W s → ¬ Sb s → g'.get s = g.get s) → (∀ s, Sb' s → Sb s ∨ ¬ W s) → SlO AnyF (BlkO AnyF) 5 T_block bv bl g' Sb' →
  ∃ tv fv ST SF, v = .agg [tv, fv] ∧ SlO AnyF (TypO AnyF) 4 T_type tv p.types.list g' ST ∧ SlO AnyF (FunO AnyF) 2 T_func fv (p.funcs.list.set f { x with blocks := .mk bl }) g' SF ∧ (∀ s, ST s → W s ∧ ¬ SF s) ∧ (∀ s, SF s → W s ∨ Sb' s)
set_option maxHeartbeats 4000000 in
theorem of_mem (hV : Env F gl K) (p : LProg) (f : Int) (hs : SmallP p) (ho : OpsP p) (h0 : Hp) :
  CallsT Tryz.prog F h0 (fun v g => Wid h0 g ∧ ((asked6 p f ≠ 0 ∧ v = .tup [.agg [.nilsl, .nilsl], .nilptr, .int .i64 (asked6 p f)]) ∨ (asked6 p f = 0 ∧ ∃ x u q bv Sb W, p.funcs.list[f.toNat]? = some x ∧ v = .tup [u, .ptr q 0, .int .i64 0] ∧ Open h0 p f.toNat x u q bv g Sb W))) N_tidy_of [.agg p.cells, .int .i64 f] := by
 have hP := hV.P
 have hX := hV.X
 refine CallsT.body hP nix_sound E_tidy_of rfl rfl ?_
 have e1 := shape_Regs_pure hV p f hs ho
 refine TW.seq (TW.regG hP (by simp <;> rfl) ?_)
 dsimp only [goK, thenQ, blockQ, roundL]
 refine TW.gen (fun g => g.get h0.nx = some (.cells T_prog p.cells) ∧ g.get (h0.nx + 1) = some (.cells T_prog [.nilsl, .nilsl]) ∧ Wid h0 g ∧ g.nx = h0.nx + 2) ⟨by simp, by simp, ((Wid.refl h0).new _).new _, by simp⟩ fun g hg => ?_
 obtain ⟨hg0, hg1, hw0, hn0⟩ := hg
 dsimp only [T_prog] at hg0 hg1
 by_cases ha : asked6 p f = 0
 ·rw [ha] at e1
  obtain ⟨c1, c2, c3⟩ := asked6_ok ha
  obtain ⟨n, rfl⟩ := Int.eq_ofNat_of_zero_le c2
  have hn : n < p.funcs.list.length := by omega
  obtain ⟨x, hx⟩ := get_of_lt hn
  obtain ⟨a1, a2, a3, a4, a5, a6⟩ := mayFunc6_sig ((check6_funcs c1).2.1 x (List.mem_of_getElem? hx))
  obtain ⟨m0, hm0⟩ := Int.eq_ofNat_of_zero_le a1
  have hml : m0 < p.types.list.length := by omega
  obtain ⟨y, hy⟩ := get_of_lt hml
  have hsp : sigParts p x = y.parts.list.length := by simp [sigParts, hm0, hy]
  repeat' first | refine TW.seq ?_ | refine TW.skip ?_ | refine TW.condF hP rfl ?_ | (refine TW.regG hP (by simp [hg0] <;> rfl) ?_; dsimp only [goK]) | (refine TO.scall hP I_shape_Regs (e1) ?_ rfl rfl rfl rfl ?_; (focus (simp; done)); refine TO.runsG hP (by simp <;> rfl) ?_; dsimp only [goK])
  refine TO.ccall hP I_shape_Twin (shape_Twin_mem hV p hs g) (by simp) rfl rfl rfl rfl (fun v k ⟨hwk, tv, fv, ST, SF, hv, hT, hF, hST, hSF⟩ => ?_)
  subst hv
  have k0 : k.get h0.nx = _ := (hwk.get h0.nx (by omega)).trans hg0
  obtain ⟨_, _, d1, d2⟩ := hT.len
  obtain ⟨_, _, d3, d4⟩ := hF.len
  have nk := hwk.nx
  refine TO.runsG hP (by simp [d1, d3] <;> rfl) ?_
  try dsimp only [goK, thenQ]
  refine TW.gen (fun m => m.get h0.nx = some (.cells T_prog p.cells) ∧ m.get (h0.nx + 1) = some (.cells T_prog [.nilsl, .nilsl]) ∧ m.get k.nx = some (.cells T_prog [tv, fv]) ∧ Wid k m ∧ m.nx = k.nx + 1) ⟨?_, ?_, ?_, ?_, ?_⟩ fun m hm => ?_
  ·rw [get_put, if_neg (by omega), get_new, if_neg (by omega)]; exact k0
  ·rw [get_put, if_neg (by omega), get_new, if_neg (by omega)]; exact (hwk.get _ (by omega)).trans hg1
  ·rw [get_put, if_pos rfl]
  ·exact ((Wid.refl k).new _).put (Nat.le_refl _) _
  ·rw [nx_put, nx_new]
  obtain ⟨w0, w1, w2, w3, w4⟩ := hm
  dsimp only [T_prog] at w0 w1 w2
  have hF2 := SlO.locl FunO.locl _ m _ SF hF (fun _ h => h) (agr_wid w3 fun s hs => (hSF s hs).2)
  have hT2 := SlO.locl TypO.locl _ m _ ST hT (fun _ h => h) (agr_wid w3 fun s hs => (hST s hs).2.1)
  obtain ⟨fx, r, rows, row, Si, hfv, hrS, hgr, hrows, hri, hrl, hSi, ⟨bv, rfl, hB⟩, wand⟩ := hF2.at FunO.locl hx
  subst hfv
  obtain ⟨hr1, hr2⟩ := hSF r hrS
  have hav := av_pos (e := LType.cells) (show 0 < p.types.list.length by omega)
  have hav2 := av_pos (e := LFunc.cells) (show 0 < p.funcs.list.length by omega)
  have hL := fun t o => load_arr (h := m.up) (C := Ctx.of Tryz.prog gl (K.tell [])) (t := t) (o := o) (by rw [up_get]; exact hgr) hrows hri
  have hL0 := fun t => load_arr0 (h := m.up) (C := Ctx.of Tryz.prog gl (K.tell [])) (t := t) (by rw [up_get]; exact hgr) hrows hri
  obtain ⟨_, _, d5, d6⟩ := hB.len
  have fin : ∀ (pn : Int) (m' : Hp), pn = sigParts p x → m' = (((m.new (.cells 69 [.int .i64 pn, bv])).put (h0.nx + 1) (.cells 25 [tv, .sl r 0 p.funcs.list.length p.funcs.list.length 2 fx])).z) → True → Wid h0 m' ∧ ((asked6 p n ≠ 0 ∧ (AV.tup [.agg [tv, .sl r 0 p.funcs.list.length p.funcs.list.length 2 fx], .ptr m.nx 0, .int .i64 0]) = .tup [.agg [.nilsl, .nilsl], .nilptr, .int .i64 (asked6 p n)]) ∨ (asked6 p n = 0 ∧ ∃ x u q bv Sb W, p.funcs.list[(n : Int).toNat]? = some x ∧ (AV.tup [.agg [tv, .sl r 0 p.funcs.list.length p.funcs.list.length 2 fx], .ptr m.nx 0, .int .i64 0]) = .tup [u, .ptr q 0, .int .i64 0] ∧ Open h0 p (n : Int).toNat x u q bv m' Sb W)) := by
   rintro pn m' rfl rfl -
   have ag : ∀ s, s < m.nx → s ≠ h0.nx + 1 → (((m.new (.cells 69 [.int .i64 (sigParts p x), bv])).put (h0.nx + 1) (.cells 25 [tv, .sl r 0 p.funcs.list.length p.funcs.list.length 2 fx])).z).get s = m.get s := fun s h1 h2 => by
    rw [get_z, get_put, if_neg (Ne.symm h2), get_new, if_neg (by omega)]
   refine ⟨⟨by rw [nx_z, nx_put, nx_new]; omega, fun s hs => ?_⟩, .inr ⟨ha, x, _, m.nx, bv, Si, fun s => ST s ∨ SF s, hx, rfl, ⟨?_, ⟨by omega, by rw [nx_z, nx_put, nx_new]; omega, ?_⟩, ?_, fun s hs => .inr (hSi s hs).1, ?_, ?_⟩⟩⟩
   ·rw [ag s (by omega) (by omega), w3.get s (by omega), hwk.get s (by omega), hw0.get s hs]
   ·rw [get_z, get_put, if_neg (by omega), get_new, if_pos rfl]
   ·rintro (h | h)
    ·have := hST _ h; omega
    ·have := hSF _ h; omega
   ·exact SlO.locl BlkO.locl _ _ _ _ hB (fun _ h => h) fun s hs => ag s (by have := hSF s (hSi s hs).1; omega) (by have := hSF s (hSi s hs).1; omega)
   ·rintro s (h | h)
    ·have := hST s h; rw [nx_z, nx_put, nx_new]; omega
    ·have := hSF s h; rw [nx_z, nx_put, nx_new]; omega
   ·intro g' bl Sb' h1 h2 h3
    have hb : ∀ s, ST s ∨ SF s → s < m.nx ∧ s ≠ h0.nx + 1 := by
     rintro s (h | h)
     ·have := hST s h; omega
     ·have := hSF s h; omega
    have g1 : ∀ s, (ST s ∨ SF s) → ¬ Si s → g'.get s = m.get s := fun s h h' => (h1 s h h').trans (ag s (hb s h).1 (hb s h).2)
    refine ⟨tv, _, ST, fun s => SF s ∨ Sb' s, rfl, SlO.locl TypO.locl _ _ _ _ hT2 (fun _ h => h) fun s hs => g1 s (.inl hs) fun h => (hST s hs).2.2 (hSi s h).1, ?_, fun s hs => ⟨.inl hs, fun h => h.elim (hST s hs).2.2 fun h => (h2 s h).elim (fun h => (hST s hs).2.2 (hSi s h).1) fun h => h (.inl hs)⟩, fun s hs => hs.imp (fun h => .inr h) id⟩
    refine wand g' Sb' { x with blocks := .mk bl } [.int .i64 x.sig, bv] rfl ?_ (fun s h _ h' => g1 s (.inr h) ‹_›) (fun s hs => (h2 s hs).imp id fun h h' => h (.inr h')) ⟨bv, rfl, h3⟩ _ (fun s hs => .inl hs) (fun s hs => .inr hs)
    rw [set_self' hri, g1 r (.inr hrS) fun h => (hSi r h).2 rfl]
    exact hgr
  rcases av_both (e := cI) y.parts with ⟨hpa, hpl⟩ | hpa
  ·try refine TW.seq ?_
   refine TW.drawH hP [] (fun e he => by cases he) [0, 0, 2, 0, 8, 0, 56, 120, 248, 510, 1022, 2046, 4094, 0, 8192, 0, 57344, 122880, 253952, 524286, 1048574, 1, 4194303, 8388607] (by kernel_rfl) (by kernel_rfl) (by simp [w0, w1, w2, hL, loadRow, sizeOk, hx, hy, hm0, hav, hav2, hpa, d1, d3, d6, decide_eq_true hn, (show ¬ m.nx ≤ h0.nx by omega), (show ¬ m.nx ≤ h0.nx + 1 by omega), (show ¬ m.nx ≤ k.nx by omega), (show ¬ m.nx ≤ r by omega), (show ¬ h0.nx + 1 = r by omega), (show ¬ h0.nx + 1 = k.nx by omega), (show ¬ m.nx = h0.nx + 1 by omega), (show ¬ m.nx = h0.nx by omega), (show ¬ m.nx = k.nx by omega), (show ¬ m.nx = r by omega), oneD, fpAt, fpOf, refOf, ldOf, fpNext, clashFree, FP.clash, FP.hard, FP.soft, overlap, inR, inMask, sameO, Nat.testBit] <;> rfl) ?_
   repeat' (refine okD_guard (fun hb => ?_) (fun hb => ?_) <;> (try simp only [Bool.not_eq_eq_eq_not, Bool.not_true, Bool.not_false] at hb) <;> refine okD_eq (by simp [hb, hX, w0, w1, w2, hL, hL0, loadRow, sizeOk, hx, hy, hm0, hav, hav2, hpa, d1, d2, d3, d4, d5, d6, decide_eq_true hn, decide_eq_true hml, (show ¬ m.nx ≤ h0.nx by omega), (show ¬ m.nx ≤ h0.nx + 1 by omega), (show ¬ m.nx ≤ k.nx by omega), (show ¬ m.nx ≤ r by omega), (show ¬ r = h0.nx by omega), (show ¬ h0.nx = r by omega), (show ¬ r = h0.nx + 1 by omega), (show ¬ h0.nx + 1 = r by omega), (show ¬ r = k.nx by omega), (show ¬ k.nx = r by omega), (show ¬ h0.nx + 1 = k.nx by omega), (show ¬ k.nx = h0.nx + 1 by omega), (show ¬ k.nx = h0.nx by omega), (show ¬ h0.nx = k.nx by omega), (show ¬ m.nx = h0.nx + 1 by omega), (show ¬ h0.nx + 1 = m.nx by omega), (show ¬ m.nx = h0.nx by omega), (show ¬ m.nx = k.nx by omega), (show ¬ m.nx = r by omega), oneD, fpAt, fpOf, refOf, ldOf, fpNext, clashFree, FP.clash, FP.hard, FP.soft, overlap, inR, inMask, sameO, Nat.testBit, show ¬ m.nx + 1 ≤ m.nx by omega, show ¬ m.nx + 2 ≤ m.nx by omega, show ¬ m.nx + 2 ≤ m.nx + 1 by omega, show ¬ m.nx + 3 ≤ m.nx by omega, show ¬ m.nx + 3 ≤ m.nx + 1 by omega, show ¬ m.nx + 3 ≤ m.nx + 2 by omega] <;> rfl) ?_)
   all_goals dsimp only [okD, thenQ]
   refine TW.ret ⟨.inr rfl, _, [.agg [tv, .sl r 0 p.funcs.list.length p.funcs.list.length 2 fx], .ptr m.nx 0, .int .i64 0], rfl, by simp [resK, get_put], ?_⟩
   dsimp only [tupOf]
   exact fin _ _ (by simp [hsp, hpl]) rfl trivial
  ·try refine TW.seq ?_
   refine TW.drawH hP [] (fun e he => by cases he) [0, 0, 2, 0, 8, 0, 56, 120, 248, 510, 1022, 2046, 4094, 0, 8192, 0, 57344, 122880, 253952, 524286, 1048574, 1, 4194303, 8388607] (by kernel_rfl) (by kernel_rfl) (by simp [w0, w1, w2, hL, loadRow, sizeOk, hx, hy, hm0, hav, hav2, hpa, d1, d3, d6, decide_eq_true hn, (show ¬ m.nx ≤ h0.nx by omega), (show ¬ m.nx ≤ h0.nx + 1 by omega), (show ¬ m.nx ≤ k.nx by omega), (show ¬ m.nx ≤ r by omega), (show ¬ h0.nx + 1 = r by omega), (show ¬ h0.nx + 1 = k.nx by omega), (show ¬ m.nx = h0.nx + 1 by omega), (show ¬ m.nx = h0.nx by omega), (show ¬ m.nx = k.nx by omega), (show ¬ m.nx = r by omega), oneD, fpAt, fpOf, refOf, ldOf, fpNext, clashFree, FP.clash, FP.hard, FP.soft, overlap, inR, inMask, sameO, Nat.testBit] <;> rfl) ?_
   repeat' (refine okD_guard (fun hb => ?_) (fun hb => ?_) <;> (try simp only [Bool.not_eq_eq_eq_not, Bool.not_true, Bool.not_false] at hb) <;> refine okD_eq (by simp [hb, hX, w0, w1, w2, hL, hL0, loadRow, sizeOk, hx, hy, hm0, hav, hav2, hpa, d1, d2, d3, d4, d5, d6, decide_eq_true hn, decide_eq_true hml, (show ¬ m.nx ≤ h0.nx by omega), (show ¬ m.nx ≤ h0.nx + 1 by omega), (show ¬ m.nx ≤ k.nx by omega), (show ¬ m.nx ≤ r by omega), (show ¬ r = h0.nx by omega), (show ¬ h0.nx = r by omega), (show ¬ r = h0.nx + 1 by omega), (show ¬ h0.nx + 1 = r by omega), (show ¬ r = k.nx by omega), (show ¬ k.nx = r by omega), (show ¬ h0.nx + 1 = k.nx by omega), (show ¬ k.nx = h0.nx + 1 by omega), (show ¬ k.nx = h0.nx by omega), (show ¬ h0.nx = k.nx by omega), (show ¬ m.nx = h0.nx + 1 by omega), (show ¬ h0.nx + 1 = m.nx by omega), (show ¬ m.nx = h0.nx by omega), (show ¬ m.nx = k.nx by omega), (show ¬ m.nx = r by omega), oneD, fpAt, fpOf, refOf, ldOf, fpNext, clashFree, FP.clash, FP.hard, FP.soft, overlap, inR, inMask, sameO, Nat.testBit, show ¬ m.nx + 1 ≤ m.nx by omega, show ¬ m.nx + 2 ≤ m.nx by omega, show ¬ m.nx + 2 ≤ m.nx + 1 by omega, show ¬ m.nx + 3 ≤ m.nx by omega, show ¬ m.nx + 3 ≤ m.nx + 1 by omega, show ¬ m.nx + 3 ≤ m.nx + 2 by omega] <;> rfl) ?_)
   all_goals dsimp only [okD, thenQ]
   refine TW.ret ⟨.inr rfl, _, [.agg [tv, .sl r 0 p.funcs.list.length p.funcs.list.length 2 fx], .ptr m.nx 0, .int .i64 0], rfl, by simp [resK, get_put], ?_⟩
   dsimp only [tupOf]
   exact fin _ _ (by simp [hsp]) rfl trivial
 ·repeat' first | refine TW.seq ?_ | refine TW.condT hP rfl ?_ | (refine TW.regG hP (by simp [hg0, hg1, ha] <;> rfl) ?_; dsimp only [goK]) | (refine TO.scall hP I_shape_Regs (e1) ?_ rfl rfl rfl rfl ?_; (focus (simp; done)); refine TO.runsG hP (by simp <;> rfl) ?_; dsimp only [goK]) | simp only [thenQ]
  refine TW.ret ⟨.inr rfl, _, [.agg [.nilsl, .nilsl], .nilptr, .int .i64 (asked6 p f)], rfl, by simp [resK, get_put], ?_⟩
  exact ⟨hw0.put (by omega) _, .inl ⟨ha, rfl⟩⟩
structure BlkAt (bv : AV) (nb k n : Nat) (g : Hp) (rb : Nat) (fb : Bool) (rowsb : List (List AV)) (u : AV) (e : List AV) : Prop where
 bv : bv = .sl rb 0 nb nb 5 fb
 get : g.get rb = some (.cells T_block rowsb.flatten)
 rows : RowsAt 5 rowsb
 row : rowsb[k]? = some (u :: e)
 len : lenA u = some n
 str : ∀ s, u ≠ .str s
 sl : ∀ j, j < n → ∃ qi fi, u = .sl qi 0 n n 7 fi
theorem BlkO.at {bv : AV} {bl : List LBlock} {g : Hp} {Sb : Nat → Prop} {k : Nat} {b : LBlock} (H : SlO AnyF (BlkO AnyF) 5 T_block bv bl g Sb) (hb : bl[k]? = some b) : ∃ rb fb rowsb u e, BlkAt bv bl.length k b.ins.list.length g rb fb rowsb u e := by
 obtain ⟨fx, r, rows, row, Si, hv, hrS, hgr, hrows, hri, hrl, hSi, ⟨u, rfl, hI⟩, _⟩ := H.at BlkO.locl hb
 obtain ⟨y1, y2, _, _⟩ := hI.len
 refine ⟨r, fx, rows, u, b.ed.cells, hv, hgr, hrows, hri, y1, y2, fun j hj => ?_⟩
 obtain ⟨a, ha⟩ := get_of_lt hj
 obtain ⟨fi, q, _, _, _, hu, _⟩ := hI.at InsO.locl ha
 exact ⟨q, fi, hu⟩
set_option maxHeartbeats 2000000 in
theorem each_mem (hP : POk Tryz.prog F gl K) (q : Nat) (params : Int) (bv : AV) (bl : List LBlock) (f : FuncId) (cap : List AV) (hF : IsFn Tryz.prog f) (I : Nat → Nat → Hp → Prop) (hp0 : 0 ≤ params) (hp1 : params + many6 bl < 1000000000) (hnb : bl.length < 1000000)
  (hobj : ∀ k j g, I k j g → g.get q = some (.cells 69 [.int .i64 params, bv]) ∧ lenA bv = some bl.length ∧ ∀ s, bv ≠ .str s)
  (hblk : ∀ k j g b, I k j g → bl[k]? = some b → ∃ rb fb rowsb u e, BlkAt bv bl.length k b.ins.list.length g rb fb rowsb u e)
  (hdo : ∀ k j g b rb fb rowsb e qi fi, I k j g → bl[k]? = some b → j < b.ins.list.length → BlkAt bv bl.length k b.ins.list.length g rb fb rowsb (.sl qi 0 b.ins.list.length b.ins.list.length 7 fi) e → CallsT Tryz.prog F g (fun _ h => I k (j + 1) h) f ([.int .i64 (params + many6 (bl.take k) + j), .ptr qi (j * 7)] ++ cap))
  (hnext : ∀ k b g, bl[k]? = some b → I k b.ins.list.length g → I (k + 1) 0 g) (h : Hp) (h0 : I 0 0 h) :
  CallsT Tryz.prog F h (fun _ g => I bl.length 0 g) N_tidy_function_each [.ptr q 0, .fn (.func f) [] cap] := by
 refine CallsT.body hP nix_sound E_tidy_function_each rfl rfl ?_
 obtain ⟨hq, hl1, hl2⟩ := hobj 0 0 h h0
 have hlv := fun h => len_of (C := Ctx.of Tryz.prog gl K) (t := T_blocks) (h := h) hl1 hl2
 dsimp only [T_blocks] at hlv
 repeat' first | refine TW.seq ?_ | refine TW.block ?_ | (refine TW.regG hP (by simp [hq, hlv] <;> rfl) ?_; dsimp only [goK])
 refine TW.loopL (fun k : Nat => [(0, .ptr q 0), (1, .fn (.func f) [] cap), (4, .int .i64 (params + many6 (bl.take k))), (15, .int .i64 bl.length), (16, .int .i64 k)]) (fun k g => k ≤ bl.length ∧ I k 0 g) (fun k => bl.length - k) (0) ?_ ?_ ?_
 focus (repeat' first | exact less_nil | refine less_cons (by simp [many6]) ?_)
 ·exact ⟨Nat.zero_le _, h0⟩
 rintro k g ⟨hk, hI⟩
 repeat' first | refine TW.seq ?_ | (refine TW.regG hP (by simp <;> rfl) ?_; dsimp only [goK])
 refine TW.cond hP rfl (fun hc => TW.skip ?_) (fun hc => TW.exit ?_)
 ·simp at hc
  have hck := hc
  obtain ⟨b, hb⟩ := get_of_lt hc
  obtain ⟨hq, _, _⟩ := hobj k 0 g hI
  obtain ⟨rb, fb, rowsb, u, e, B⟩ := hblk k 0 g b hI hb
  obtain ⟨hbv, hgr, hrows, hri, hu1, hu2, hu3⟩ := B
  subst hbv
  have hL := fun t => load_arr0 (C := Ctx.of Tryz.prog gl K) (t := t) hgr hrows hri
  have hlu := fun h => len_of (C := Ctx.of Tryz.prog gl K) (t := T_inss) (h := h) hu1 hu2
  dsimp only [T_inss] at hlu
  have ht := many6_take hb
  have hn1 := many6_nonneg (bl.take k)
  have hn2 := many6_le bl (k + 1)
  dsimp only [thenQ]
  repeat' first | refine TW.seq ?_ | refine TW.block ?_ | (refine TW.regG hP (by simp [hq, hL, loadRow, sizeOk, hlu, hc] <;> rfl) ?_; dsimp only [goK])
  refine TW.loopL (fun j : Nat => [(0, .ptr q 0), (1, .fn (.func f) [] cap), (4, .int .i64 (params + many6 (bl.take k) + j)), (5, .int .i64 k), (15, .int .i64 bl.length), (16, .int .i64 k), (27, .int .i64 b.ins.list.length), (28, .int .i64 j)]) (fun j g => j ≤ b.ins.list.length ∧ I k j g) (fun j => b.ins.list.length - j) (0) ?_ ?_ ?_
  focus (repeat' first | exact less_nil | refine less_cons (by simp) ?_)
  ·exact ⟨Nat.zero_le _, hI⟩
  clear hq hgr hrows hri hu1 hu2 hu3 hL hlu hI
  rintro j g ⟨hj, hI⟩
  repeat' first | refine TW.seq ?_ | (refine TW.regG hP (by simp <;> rfl) ?_; dsimp only [goK])
  refine TW.cond hP rfl (fun hc => TW.skip ?_) (fun hc => TW.exit ?_)
  ·simp at hc
   obtain ⟨hq, _, _⟩ := hobj k j g hI
   obtain ⟨rb', fb', rowsb', u', e', B⟩ := hblk k j g b hI hb
   obtain ⟨qi, fi, rfl⟩ := B.sl j hc
   have hd := hdo k j g b rb' fb' rowsb' e' qi fi hI hb hc B
   obtain ⟨hbv, hgr, hrows, hri, hu1, hu2, hu3⟩ := B
   cases hbv
   have hL := fun t => load_arr0 (C := Ctx.of Tryz.prog gl K) (t := t) hgr hrows hri
   dsimp only [thenQ]
   repeat' first | refine TW.seq ?_ | refine TW.block ?_ | (refine TW.regG hP (by simp [hq, hL, loadRow, sizeOk, hck, hc] <;> rfl) ?_; dsimp only [goK])
   refine TO.ccall hP hF hd (by simp) rfl rfl rfl rfl (fun v g' hI' => ?_)
   refine TO.runsG hP (by simp <;> rfl) ?_
   try dsimp only [goK]
   repeat' first | (refine TW.regG hP (by simp <;> rfl) ?_; dsimp only [goK]) | simp only [roundL]
   refine ⟨j + 1, by omega, trivial, ?_, by omega, hI'⟩
   repeat' first | exact less_nil | refine less_cons (by simp [w64s (show j < 9000000000000000000 by omega), w64e (n := params + (many6 (bl.take k) + ((j : Int) + 1))) (by omega) (by omega), Int.add_assoc]) ?_
  ·simp at hc
   have hj2 : j = b.ins.list.length := by omega
   subst hj2
   dsimp only [thenQ]
   repeat' first | (refine TW.regG hP (by simp <;> rfl) ?_; dsimp only [goK]) | simp only [roundL]
   refine ⟨k + 1, by omega, trivial, ?_, by omega, hnext k b g hb hI⟩
   repeat' first | exact less_nil | refine less_cons (by simp [w64s (show k < 9000000000000000000 by omega), ht, Int.add_assoc]) ?_
 ·simp at hc
  have hk2 : k = bl.length := by omega
  subst hk2
  dsimp only [thenQ]
  repeat' first | simp only [blockQ, roundL, ↓reduceIte]
  exact ⟨.inl rfl, g, [], rfl, rfl, hI⟩
theorem many1_mem (hP : POk Tryz.prog F gl K) (c : Nat) (n r : Int) (p : AV) (g : Hp) (hc : g.get c = some (.cells 3 [.int .i64 n])) (h0 : 0 ≤ n) (h1 : n < 2000000000) :
  CallsT Tryz.prog F g (fun _ h => h.nx = g.nx ∧ h.get c = some (.cells 3 [.int .i64 (n + 1)]) ∧ ∀ s, s ≠ c → h.get s = g.get s) N_tidy_function_many_1 [.int .i64 r, p, .ptr c 0] := by
 refine CallsT.body hP nix_sound E_tidy_function_many_1 rfl rfl ?_
 repeat' first | (refine TW.regG hP (by simp [hc, w64e (n := n + 1) (by omega) (by omega)] <;> rfl) ?_; dsimp only [goK])
 exact ⟨.inl rfl, _, [], rfl, rfl, by rw [nx_put], by rw [get_put, if_pos rfl], fun s hs => by rw [get_put, if_neg (Ne.symm hs)]⟩
theorem many_mem (hP : POk Tryz.prog F gl K) (q : Nat) (params : Int) (bv : AV) (bl : List LBlock) (Sb : Nat → Prop) (hp0 : 0 ≤ params) (hp1 : params + many6 bl < 1000000000) (hnb : bl.length < 1000000) (h : Hp)
  (hq : h.get q = some (.cells 69 [.int .i64 params, bv])) (hqn : q < h.nx) (hB : SlO AnyF (BlkO AnyF) 5 T_block bv bl h Sb) (hSb : ∀ s, Sb s → s < h.nx) :
  CallsT Tryz.prog F h (fun v g => Wid h g ∧ v = .int .i64 (params + many6 bl)) N_tidy_function_many [.ptr q 0] := by
 refine CallsT.body hP nix_sound E_tidy_function_many rfl rfl ?_
 obtain ⟨z1, z2, z3, z4⟩ := hB.len
 refine TW.seq (TW.regG hP (by simp <;> rfl) ?_)
 dsimp only [goK, thenQ, blockQ, roundL]
 refine TW.seq (TW.regG hP (by simp [hq] <;> rfl) ?_)
 dsimp only [goK, thenQ, blockQ, roundL]
 refine TW.gen (fun g => g.get h.nx = some (.cells 3 [.int .i64 params]) ∧ Wid h g ∧ h.nx < g.nx) ⟨by simp, ((Wid.refl h).new _).put (Nat.le_refl _) _, by simp⟩ fun g hg => ?_
 obtain ⟨g1, hw, hn⟩ := hg
 have hmono := many6_le bl
 refine TW.seq (TW.regG hP (by simp <;> rfl) ?_)
 dsimp only [goK, thenQ, blockQ, roundL]
 refine TO.ccall hP I_tidy_function_each (each_mem hP q params bv bl N_tidy_function_many_1 [.ptr h.nx 0] I_tidy_function_many_1 (fun k j m => Wid h m ∧ h.nx < m.nx ∧ m.get h.nx = some (.cells 3 [.int .i64 (params + many6 (bl.take k) + j)])) hp0 hp1 hnb ?_ ?_ ?_ ?_ g ⟨hw, hn, by simpa [many6] using g1⟩) (by simp) rfl rfl rfl rfl (fun v m hm => ?_)
 ·rintro k j m ⟨w, _, _⟩
  exact ⟨(w.get q hqn).trans hq, z1, z2⟩
 ·rintro k j m b ⟨w, _, _⟩ hb
  exact BlkO.at (SlO.locl BlkO.locl _ _ _ _ hB (fun _ h => h) (agr_wid w hSb)) hb
 ·rintro k j m b rb fb rowsb e qi fi ⟨w, hn', hc⟩ hb hj B
  have ht := many6_take hb
  have h1 := many6_nonneg (bl.take k)
  have h2 := many6_le bl (k + 1)
  refine (many1_mem hP h.nx _ _ _ m hc (by omega) (by omega)).mono fun v m' ⟨q1, q2, q3⟩ => ⟨⟨by rw [q1]; exact w.nx, fun s hs => (q3 s (by omega)).trans (w.get s hs)⟩, by omega, by rw [q2, Int.add_assoc]; rfl⟩
 ·rintro k b m hb ⟨w, hn', hc⟩
  refine ⟨w, hn', ?_⟩
  rw [many6_take hb]
  simpa [Int.add_assoc] using hc
 ·obtain ⟨w, _, hc⟩ := hm
  rw [List.take_of_length_le (Nat.le_refl _)] at hc
  refine TO.runsG hP (by simp <;> rfl) ?_
  try dsimp only [goK]
  repeat' first | refine TW.seq ?_ | (refine TW.regG hP (by simp [hc] <;> rfl) ?_; dsimp only [goK]) | simp only [thenQ] | (refine TW.ret ⟨.inr rfl, _, _, rfl, rfl, ?_⟩; dsimp only [tupOf])
  exact ⟨w, trivial⟩
theorem IntO.frz {v : AV} {l : List Int} {h : Hp} (H : IntO OffF v l h S) (k : Nat) : frzV (k + 2) h v = some ((Sl.mk l).av cI) := by
 rcases H with ⟨rfl, H⟩ | ⟨r, x, _, hn, rfl, h3, h4⟩
 ·rw [H.off]; rfl
 ·show (match h.get r with
   | some (.cells _ cs) => bif Nat.ble (Nat.add 0 (Nat.mul l.length 1)) cs.length then
     (match mapO (mapO (frzV (k + 1) h)) (chunks 1 l.length (cs.drop 0)) with | some l => some (AV.isl l) | none => none) else none
   | _ => none) = _
  rw [h4]
  dsimp only
  rw [List.drop_zero, chunks_ints, mapO_int (k := k)]
  have : Nat.ble (Nat.add 0 (Nat.mul l.length 1)) (l.map (AV.int .i64)).length = true := Nat.ble_eq_true_of_le (by simp)
  rw [this]; rfl
def asRead (x : LIns) : LIns := { x with args := .mk x.args.list, frm := .mk x.frm.list }
def ahead (l : List Int) (r : Int) : Int := ((l.filter fun n => decide (n < r)).length : Int)
end Go.Ax
noncomputable section
namespace Go.Ax
open Go.Proofs Go.Shelf Go.Sort Go.RowKit
variable {P : Program} {F : Nat → Option Obj} {ρ : Go.Shelf.Ren}
abbrev sortI (l : List Int) : List Int := l.mergeSort fun x y => decide (x ≤ y)
end Go.Ax
set_option maxRecDepth 20000
noncomputable section
namespace Go.Ax
open Go.Proofs
attribute [local irreducible] TW TO CallsT PureC
variable {F : Nat → Option Obj} {gl : Nat → AV} {K : Knob} {S S' : Nat → Prop} {X : Type}
theorem flat_cI : ∀ l : List Int, (l.map cI).flatten = l.map (.int .i64)
 | [] => rfl
 | a :: l => by simp [flat_cI l]
theorem noRef_iptr1 {l : List AV} {i o : Nat} : noRef (.iptr [l] i o) = noRefs l := by
 show (noRefs l && true) = _
 rw [Bool.and_true]
attribute [local simp] noRef_iptr1
theorem swap1_pure (hP : POk Tryz.prog F gl K) (a b r : Int) : PureC Tryz.prog F N_tidy_Swap_1 [.int .i64 r, .iptr [[.int .i64 a]] 0 0, .iptr [[.int .i64 b]] 0 0] (.int .i64 (if r = a then b else r)) := by
 refine CallsT.pure (O := fun u _ => u = .int .i64 (if r = a then b else r)) (k := 1) (by simp) ?_ (fun u g e => by subst e; rfl)
 refine CallsT.body hP nix_sound E_tidy_Swap_1 rfl rfl ?_
 by_cases h : r = a
 ·repeat' first | refine TW.seq ?_ | refine TW.condT hP rfl ?_ | (refine TW.regG hP (by simp [h] <;> rfl) ?_; dsimp only [goK]) | simp only [thenQ] | (refine TW.ret ⟨.inr rfl, _, _, rfl, rfl, ?_⟩; dsimp only [tupOf])
  simp [h]
 ·repeat' first | refine TW.seq ?_ | refine TW.skip ?_ | refine TW.condF hP rfl ?_ | (refine TW.regG hP (by simp [h] <;> rfl) ?_; dsimp only [goK]) | simp only [thenQ] | (refine TW.ret ⟨.inr rfl, _, _, rfl, rfl, ?_⟩; dsimp only [tupOf])
  simp [h]
structure ToFn (F : Nat → Option Obj) (tf : FuncId) (caps : List AV) (T : Int → Int) (Rd : Int → Prop) : Prop where
 pure : ∀ r, Rd r → PureC Tryz.prog F tf (.int .i64 r :: caps) (.int .i64 (T r))
 fn : ∃ fn, Tryz.prog.funcs[tf]? = some fn ∧ fn.body.isSome = true
def turnX (T : Int → Int) (x : LIns) : LIns := { x with a := if hasA6 x.op = true then T x.a else x.a, b := if two6 x.op = true then T x.b else x.b, args := .mk (x.args.list.map T), frm := x.frm }
structure RdX (Rd : Int → Prop) (x : LIns) : Prop where
 ra : hasA6 x.op = true → Rd x.a
 rb : two6 x.op = true → Rd x.b
 rg : ∀ r ∈ x.args.list, Rd r
 op : 0 ≤ x.op ∧ x.op < 256
 len : x.args.list.length < 900000
theorem mapTake_set {f : X → X} {l : List X} {i : Nat} {r : X} (h : l[i]? = some r) : ((l.take i).map f ++ l.drop i).set i (f r) = (l.take (i + 1)).map f ++ l.drop (i + 1) := by
 obtain ⟨h1, rfl⟩ := List.getElem?_eq_some_iff.1 h
 have hl : ((l.take i).map f).length = i := by simp; omega
 rw [List.set_append_right _ _ (by omega), hl, Nat.sub_self, List.drop_eq_getElem_cons h1, List.take_succ_eq_append_getElem h1, List.map_append, List.append_assoc]
 rfl
theorem mapTake_get {f : X → X} {l : List X} {i : Nat} {r : X} (h : l[i]? = some r) : ((l.take i).map f ++ l.drop i)[i]? = some r := by
 obtain ⟨h1, rfl⟩ := List.getElem?_eq_some_iff.1 h
 have hl : ((l.take i).map f).length = i := by simp; omega
 rw [List.getElem?_append_right (by omega), hl, Nat.sub_self, List.drop_eq_getElem_cons h1]; rfl
theorem mapTake_len {f : X → X} {l : List X} {i : Nat} : ((l.take i).map f ++ l.drop i).length = l.length := by simp; omega
theorem mapTake_all {f : X → X} {l : List X} : (l.take l.length).map f ++ l.drop l.length = l.map f := by simp
theorem RowIs.putz {eT : TypeId} {m m1 : Hp} {q j : Nat} {rows : List (List AV)} {row row' : List AV} (H : RowIs eT m q rows j row m1) : RowIs eT m q rows j row' (m1.put q (.cells eT ((rows.set j row).set j row').flatten)).z := by
 obtain ⟨h1, h2, h3⟩ := H.put (row' := row')
 exact ⟨by rw [nx_z]; exact h1, by rw [get_z]; exact h2, fun s hs => by rw [get_z]; exact h3 s hs⟩
theorem RowIs.putz0 {eT : TypeId} {m : Hp} {q j : Nat} {rows : List (List AV)} {row row' : List AV} (hg : m.get q = some (.cells eT rows.flatten)) (hr : rows[j]? = some row) : RowIs eT m q rows j row' (m.put q (.cells eT (rows.set j row').flatten)).z := by
 have := (RowIs.self hg hr).putz (row' := row')
 rwa [set_self' hr] at this
theorem storeI {C : Ctx} {h : Hp} {r k : Nat} {L : List Int} {a v : Int} (hg : h.get r = some (.cells 3 (L.map (.int .i64)))) (hk : L[k]? = some a) (t : TypeId) (ht : sz1 C t = true) : storeAt C t (.ptr r k) (.int .i64 v) h = some (h.put r (.cells 3 ((L.set k v).map (.int .i64)))) := by
 have hg2 : h.get r = some (.cells 3 (L.map cI).flatten) := by rw [flat_cI]; exact hg
 have := store10 (C := C) (v := .int .i64 v) hg2 ints_len (show (L.map cI)[k]? = some [.int .i64 a] by rw [List.getElem?_map, hk]; rfl) rfl rfl (by omega) t ht
 rw [Nat.mul_one] at this
 rw [this, show ([AV.int .i64 a].set 0 (.int .i64 v)) = cI v from rfl, ← List.map_set, flat_cI]
set_option maxHeartbeats 4000000 in
theorem turn1_mem (hP : POk Tryz.prog F gl K) (hX : ∀ f a, K.ext f a = none) (hG : gl NG_shape_table = .iptr [shapeCells] 0 0) {tf : FuncId} {caps : List AV} {T : Int → Int} {Rd : Int → Prop} (hto : ToFn F tf caps T Rd) (c q j : Nat) (rr : AV) (rows : List (List AV)) (row : List AV) (x : LIns) (Sj : Nat → Prop) (g : Hp)
    (hc : g.get c = some (.cells 77 [.fn (.func tf) [] caps])) (hq : g.get q = some (.cells T_ins rows.flatten)) (hrows : RowsAt 7 rows) (hrj : rows[j]? = some row) (hI : InsO OffF x row g Sj) (hSj : ∀ s, Sj s → s ≠ q ∧ s ≠ c ∧ s < g.nx) (hcq : c ≠ q) (hcn : c < g.nx) (hqn : q < g.nx) (hx : RdX Rd x) :
    CallsT Tryz.prog F g (fun _ m => ∃ row', row'.length = 7 ∧ m.get q = some (.cells T_ins (rows.set j row').flatten) ∧ InsO OffF (turnX T x) row' m Sj ∧ g.nx ≤ m.nx ∧ ∀ s, s < g.nx → s ≠ q → ¬ Sj s → m.get s = g.get s) N_tidy_function_turn_1 [rr, .ptr q (j * 7), .ptr c 0] := by
  obtain ⟨fn, hfn, hfb⟩ := hto.fn
  refine CallsT.body hP nix_sound E_tidy_function_turn_1 rfl rfl ?_
  obtain ⟨va, vf, Sa, Sf, rfl, ha, hf, hsa, hsf⟩ := hI
  have hL2 := fun t o => load_arr (C := Ctx.of Tryz.prog gl K) (t := t) (o := o) hq hrows hrj
  have hL := fun t => load_arr0 (C := Ctx.of Tryz.prog gl K) (t := t) hq hrows hrj
  have e1 := Uses_pure hP hG ⟨x.op, 0, 0, 0, 0, .nil, .nil⟩ hx.op.1 hx.op.2 (by simp [Sl.list])
  rw [uses_op] at e1
  dsimp only [LIns.cells, Sl.av] at e1
  obtain ⟨us, hus⟩ : ∃ us : List Int, us = (if hasA6 x.op = true then [0] else []) ++ (if two6 x.op = true then [0] else []) := ⟨_, rfl⟩
  rw [← hus] at e1
  have hul := fun h => len_of (C := Ctx.of Tryz.prog gl K) (t := T_ints) (h := h) (lenA_slOf us) (str_slOf us)
  dsimp only [T_ints] at hul
  refine TW.join (fun _ : Unit => [(1, .ptr q (j * 7)), (2, .ptr c 0)]) (fun _ m1 => RowIs T_ins g q rows j [.int .u8 x.op, .int .i64 x.type, .int .i64 (turnX T x).a, .int .i64 (turnX T x).b, .int .i64 x.n, va, vf] m1) ?_ ?_
  · repeat refine TW.seq ?_
    refine TW.regG hP (by simp [hL, loadRow, sizeOk] <;> rfl) ?_
    dsimp only [goK]
    refine TO.scall hP I_shape_Uses (e1) (by simp) rfl rfl rfl rfl ?_
    refine TO.runsG hP (by simp [hul] <;> rfl) ?_
    dsimp only [goK, thenQ]
    cases h2 : two6 x.op with
    | true =>
      have hA := two_hasA h2
      have eb := hto.pure x.b (hx.rb h2)
      have ea := hto.pure x.a (hx.ra hA)
      have hlen : us.length = 2 := by rw [hus, hA, h2]; rfl
      have hG2 := fun (gl : Nat → AV) (K : Knob) => (fn_of (P := Tryz.prog) (gl := gl) (K := K)).trans hfn
      repeat' first | refine TW.seq ?_ | refine TW.block ?_ | refine TW.exit ?_ | refine TW.condT hP rfl ?_ | (refine TW.regG hP (by simp [hlen] <;> rfl) ?_; dsimp only [goK]) | simp only [thenQ, blockQ, ↓reduceIte]
      have hL2 := fun t o => load_arr (h := g.up) (C := Ctx.of Tryz.prog gl (K.tell [(tf, .int .i64 x.b :: caps, .int .i64 (T x.b))])) (t := t) (o := o) (by rw [up_get]; exact hq) hrows hrj
      have hSt := store1 (h := g.up) (C := Ctx.of Tryz.prog gl (K.tell [(tf, .int .i64 x.b :: caps, .int .i64 (T x.b))])) (v := .int .i64 (T x.b)) (o := 3) (by rw [up_get]; exact hq) hrows hrj rfl rfl (by omega)
      dsimp only [T_ins] at hSt
      try refine TW.seq ?_
      refine TW.drawH hP [(tf, (AV.int .i64 x.b :: caps), .int .i64 (T x.b))] (fun e he => by rcases List.mem_cons.1 he with rfl | he; exact eb; cases he) [0, 0, 0, 4, 12, 28, 62, 127, 255, 511] (by kernel_rfl) (by kernel_rfl) (by simp [hX, hc, hL2, loadRow, sizeOk, hSt, -storeAt, sz1, hG2, hfb, (show ¬ g.nx ≤ q by omega), (show ¬ q = c by omega), oneD, fpAt, fpOf, refOf, ldOf, fpNext, clashFree, FP.clash, FP.hard, FP.soft, overlap, inR, inMask, sameO, Nat.testBit] <;> rfl) ?_
      repeat' (refine okD_guard (fun hb => ?_) (fun hb => ?_) <;> (try simp only [Bool.not_eq_eq_eq_not, Bool.not_true, Bool.not_false] at hb) <;> refine okD_eq (by simp [hb, hX, hc, hL2, loadRow, sizeOk, hSt, -storeAt, sz1, hG2, hfb, (show ¬ g.nx ≤ c by omega), (show ¬ g.nx ≤ q by omega), hcq, (show ¬ q = c by omega), oneD, fpAt, fpOf, refOf, ldOf, fpNext, clashFree, FP.clash, FP.hard, FP.soft, overlap, inR, inMask, sameO, Nat.testBit, show ¬ g.nx + 1 ≤ g.nx by omega, show ¬ g.nx + 2 ≤ g.nx by omega, show ¬ g.nx + 2 ≤ g.nx + 1 by omega, show ¬ g.nx + 3 ≤ g.nx by omega, show ¬ g.nx + 3 ≤ g.nx + 1 by omega, show ¬ g.nx + 3 ≤ g.nx + 2 by omega] <;> rfl) ?_)
      all_goals dsimp only [okD, thenQ]
      refine TW.gen (RowIs T_ins g q rows j [.int .u8 x.op, .int .i64 x.type, .int .i64 x.a, .int .i64 (T x.b), .int .i64 x.n, va, vf]) (RowIs.putz0 hq hrj) fun m0 h0r => ?_
      clear hSt hL2
      have hnx := h0r.1
      have hc0 : m0.get c = _ := (h0r.2.2 c hcq).trans hc
      have hL2 := fun t o => load_arr (h := m0.up) (C := Ctx.of Tryz.prog gl (K.tell [(tf, .int .i64 x.a :: caps, .int .i64 (T x.a))])) (t := t) (o := o) (by rw [up_get]; exact h0r.2.1) (rows_set hrows rfl) (get_set' hrj)
      have hSt := store1 (h := m0.up) (C := Ctx.of Tryz.prog gl (K.tell [(tf, .int .i64 x.a :: caps, .int .i64 (T x.a))])) (v := .int .i64 (T x.a)) (o := 2) (by rw [up_get]; exact h0r.2.1) (rows_set hrows rfl) (get_set' hrj) rfl rfl (by omega)
      dsimp only [T_ins] at hSt
      try refine TW.seq ?_
      refine TW.drawH hP [(tf, (AV.int .i64 x.a :: caps), .int .i64 (T x.a))] (fun e he => by rcases List.mem_cons.1 he with rfl | he; exact ea; cases he) [0, 0, 0, 4, 12, 28, 62, 127, 255, 511] (by kernel_rfl) (by kernel_rfl) (by simp [hX, hc0, hL2, loadRow, sizeOk, hSt, -storeAt, sz1, hG2, hfb, (show ¬ m0.nx ≤ q by omega), (show ¬ q = c by omega), oneD, fpAt, fpOf, refOf, ldOf, fpNext, clashFree, FP.clash, FP.hard, FP.soft, overlap, inR, inMask, sameO, Nat.testBit] <;> rfl) ?_
      repeat' (refine okD_guard (fun hb => ?_) (fun hb => ?_) <;> (try simp only [Bool.not_eq_eq_eq_not, Bool.not_true, Bool.not_false] at hb) <;> refine okD_eq (by simp [hb, hX, hc0, hL2, loadRow, sizeOk, hSt, -storeAt, sz1, hG2, hfb, (show ¬ m0.nx ≤ c by omega), (show ¬ m0.nx ≤ q by omega), hcq, (show ¬ q = c by omega), oneD, fpAt, fpOf, refOf, ldOf, fpNext, clashFree, FP.clash, FP.hard, FP.soft, overlap, inR, inMask, sameO, Nat.testBit, show ¬ m0.nx + 1 ≤ m0.nx by omega, show ¬ m0.nx + 2 ≤ m0.nx by omega, show ¬ m0.nx + 2 ≤ m0.nx + 1 by omega, show ¬ m0.nx + 3 ≤ m0.nx by omega, show ¬ m0.nx + 3 ≤ m0.nx + 1 by omega, show ¬ m0.nx + 3 ≤ m0.nx + 2 by omega] <;> rfl) ?_)
      all_goals dsimp only [okD, thenQ]
      repeat' first | refine TW.exit ?_ | simp only [blockQ, ↓reduceIte]
      refine ⟨(), rfl, ?_, ?_⟩
      · repeat' first | exact less_nil | refine less_cons (by simp) ?_
      · have := h0r.putz (row' := [.int .u8 x.op, .int .i64 x.type, .int .i64 (T x.a), .int .i64 (T x.b), .int .i64 x.n, va, vf])
        simpa [turnX, hA, h2] using this
    | false =>
      cases hA : hasA6 x.op with
      | true =>
        have ea := hto.pure x.a (hx.ra hA)
        have hlen : us.length = 1 := by rw [hus, hA, h2]; rfl
        have hG2 := fun (gl : Nat → AV) (K : Knob) => (fn_of (P := Tryz.prog) (gl := gl) (K := K)).trans hfn
        repeat' first | refine TW.seq ?_ | refine TW.block ?_ | refine TW.skip ?_ | refine TW.exit ?_ | refine TW.condT hP rfl ?_ | refine TW.condF hP rfl ?_ | (refine TW.regG hP (by simp [hlen] <;> rfl) ?_; dsimp only [goK])
        have hL2 := fun t o => load_arr (h := g.up) (C := Ctx.of Tryz.prog gl (K.tell [(tf, .int .i64 x.a :: caps, .int .i64 (T x.a))])) (t := t) (o := o) (by rw [up_get]; exact hq) hrows hrj
        have hSt := store1 (h := g.up) (C := Ctx.of Tryz.prog gl (K.tell [(tf, .int .i64 x.a :: caps, .int .i64 (T x.a))])) (v := .int .i64 (T x.a)) (o := 2) (by rw [up_get]; exact hq) hrows hrj rfl rfl (by omega)
        dsimp only [T_ins] at hSt
        try refine TW.seq ?_
        refine TW.drawH hP [(tf, (AV.int .i64 x.a :: caps), .int .i64 (T x.a))] (fun e he => by rcases List.mem_cons.1 he with rfl | he; exact ea; cases he) [0, 0, 0, 4, 12, 28, 62, 127, 255, 511] (by kernel_rfl) (by kernel_rfl) (by simp [hX, hc, hL2, loadRow, sizeOk, hSt, -storeAt, sz1, hG2, hfb, (show ¬ g.nx ≤ q by omega), (show ¬ q = c by omega), oneD, fpAt, fpOf, refOf, ldOf, fpNext, clashFree, FP.clash, FP.hard, FP.soft, overlap, inR, inMask, sameO, Nat.testBit] <;> rfl) ?_
        repeat' (refine okD_guard (fun hb => ?_) (fun hb => ?_) <;> (try simp only [Bool.not_eq_eq_eq_not, Bool.not_true, Bool.not_false] at hb) <;> refine okD_eq (by simp [hb, hX, hc, hL2, loadRow, sizeOk, hSt, -storeAt, sz1, hG2, hfb, (show ¬ g.nx ≤ c by omega), (show ¬ g.nx ≤ q by omega), hcq, (show ¬ q = c by omega), oneD, fpAt, fpOf, refOf, ldOf, fpNext, clashFree, FP.clash, FP.hard, FP.soft, overlap, inR, inMask, sameO, Nat.testBit, show ¬ g.nx + 1 ≤ g.nx by omega, show ¬ g.nx + 2 ≤ g.nx by omega, show ¬ g.nx + 2 ≤ g.nx + 1 by omega, show ¬ g.nx + 3 ≤ g.nx by omega, show ¬ g.nx + 3 ≤ g.nx + 1 by omega, show ¬ g.nx + 3 ≤ g.nx + 2 by omega] <;> rfl) ?_)
        all_goals dsimp only [okD, thenQ]
        repeat' first | refine TW.exit ?_ | simp only [blockQ, ↓reduceIte]
        refine ⟨(), rfl, ?_, ?_⟩
        · repeat' first | exact less_nil | refine less_cons (by simp) ?_
        · have := RowIs.putz0 (row' := [.int .u8 x.op, .int .i64 x.type, .int .i64 (T x.a), .int .i64 x.b, .int .i64 x.n, va, vf]) hq hrj
          simpa [turnX, hA, h2] using this
      | false =>
        have hlen : us.length = 0 := by rw [hus, hA, h2]; rfl
        repeat' first | refine TW.seq ?_ | refine TW.block ?_ | refine TW.skip ?_ | refine TW.exit ?_ | refine TW.condF hP rfl ?_ | (refine TW.regG hP (by simp [hlen] <;> rfl) ?_; dsimp only [goK]) | simp only [thenQ, blockQ, ↓reduceIte, reduceCtorEq]
        refine ⟨(), rfl, ?_, ?_⟩
        · repeat' first | exact less_nil | refine less_cons (by simp) ?_
        · have := RowIs.self hq hrj
          simpa [turnX, hA, h2] using this
  clear hL hL2 hul e1
  rintro - m0 h0r
  have hnx0 := h0r.1
  have hc0 : m0.get c = _ := (h0r.2.2 c hcq).trans hc
  have ha0 := IntO.locl _ m0 _ _ ha (fun _ h => h) fun s hs => h0r.2.2 s (hSj s (hsa s hs).1).1
  have hL2 := fun t o => load_arr (C := Ctx.of Tryz.prog gl K) (t := t) (o := o) h0r.2.1 (rows_set hrows rfl) (get_set' hrj)
  obtain ⟨z1, z2, z3, z4⟩ := ha0.len
  have hlv := fun h => len_of (C := Ctx.of Tryz.prog gl K) (t := T_ints) (h := h) z1 z2
  dsimp only [T_ints] at hlv
  repeat' first | refine TW.seq ?_ | refine TW.block ?_ | (refine TW.regG hP (by simp [hL2, loadRow, sizeOk, hlv] <;> rfl) ?_; dsimp only [goK])
  have hmem : ∀ i : Nat, (((x.args.list.take i).map T ++ x.args.list.drop i) : List Int).length = x.args.list.length := fun i => by simp; omega
  refine TW.loopL (fun k : Nat => [(1, .ptr q (j * 7)), (2, .ptr c 0), (42, va), (43, .int .i64 x.args.list.length), (44, .int .i64 k)]) (fun k m => k ≤ x.args.list.length ∧ m.nx = m0.nx ∧ (∀ s, ¬ Sa s → m.get s = m0.get s) ∧ IntO OffF va ((x.args.list.take k).map T ++ x.args.list.drop k) m Sa) (fun k => x.args.list.length - k) (0) ?_ ?_ ?_
  focus (repeat' first | exact less_nil | refine less_cons (by simp) ?_)
  · exact ⟨Nat.zero_le _, rfl, fun _ _ => rfl, by simpa using ha0⟩
  rintro k m ⟨hk, hn, hs, hi⟩
  have hqa : ¬ Sa q := fun h => (hSj q (hsa q h).1).1 rfl
  have hca : ¬ Sa c := fun h => (hSj c (hsa c h).1).2.1 rfl
  have hcm : m.get c = _ := (hs c hca).trans hc0
  have hqm : m.get q = _ := (hs q hqa).trans h0r.2.1
  repeat' first | refine TW.seq ?_ | (refine TW.regG hP (by simp <;> rfl) ?_; dsimp only [goK])
  refine TW.cond hP rfl (fun hc => TW.skip ?_) (fun hc => TW.exit ?_)
  · simp at hc
    rename_i hcell
    obtain ⟨r, hr⟩ := get_of_lt hc
    have hr2 := mapTake_get (f := T) hr
    have hst := mapTake_set (f := T) hr
    have hlk := hmem k
    rcases hi with ⟨he, _⟩ | ⟨ra, fa, hfa, hne, hva, hra, hg⟩
    · rw [he] at hlk; simp at hlk; omega
    rw [hlk] at hva
    subst hva
    generalize hL : (x.args.list.take k).map T ++ x.args.list.drop k = L at hr2 hst hlk hne hg
    have hraq : ¬ ra = q := fun e => hqa (e ▸ hra)
    have hrac : ¬ ra = c := fun e => hca (e ▸ hra)
    have hran := (hSj ra (hsa ra hra).1).2.2
    have er := hto.pure r (hx.rg r (List.mem_of_getElem? hr))
    have hG2 := fun (gl : Nat → AV) (K : Knob) => (fn_of (P := Tryz.prog) (gl := gl) (K := K)).trans hfn
    have hr3 := (List.getElem?_eq_some_iff.1 hr2).2
    have hlx := hx.len
    dsimp only [T_int] at hg
    dsimp only [thenQ]
    refine TW.seq ?_
    refine TW.block ?_
    refine TW.seq (TW.regG hP (by simp [hg, hr3, hc, hlk] <;> rfl) ?_)
    dsimp only [goK, thenQ, blockQ, roundL]
    have hL2 := fun t o => load_arr (h := m.up) (C := Ctx.of Tryz.prog gl (K.tell [(tf, .int .i64 r :: caps, .int .i64 (T r))])) (t := t) (o := o) (by rw [up_get]; exact hqm) (rows_set hrows rfl) (get_set' hrj)
    have hSt := storeI (h := m.up) (C := Ctx.of Tryz.prog gl (K.tell [(tf, .int .i64 r :: caps, .int .i64 (T r))])) (v := T r) (by rw [up_get]; exact hg) hr2
    try refine TW.seq ?_
    refine TW.drawH hP [(tf, (AV.int .i64 r :: caps), .int .i64 (T r))] (fun e he => by rcases List.mem_cons.1 he with rfl | he; exact er; cases he) [0, 1, 3, 7, 0, 0, 0, 96, 255, 511] (by kernel_rfl) (by kernel_rfl) (by simp [hX, hcm, hL2, loadRow, sizeOk, hSt, -storeAt, sz1, hG2, hfb, hc, (show ¬ m.nx ≤ c by omega), (show ¬ m.nx ≤ ra by omega), hraq, hrac, oneD, fpAt, fpOf, refOf, ldOf, fpNext, clashFree, FP.clash, FP.hard, FP.soft, overlap, inR, inMask, sameO, Nat.testBit] <;> rfl) ?_
    repeat' (refine okD_guard (fun hb => ?_) (fun hb => ?_) <;> (try simp only [Bool.not_eq_eq_eq_not, Bool.not_true, Bool.not_false] at hb) <;> refine okD_eq (by simp [hb, hX, hcm, hL2, loadRow, sizeOk, hSt, -storeAt, sz1, hG2, hfb, hc, (show ¬ m.nx ≤ c by omega), (show ¬ m.nx ≤ q by omega), (show ¬ m.nx ≤ ra by omega), hcq, (show ¬ q = c by omega), hraq, hrac, (show ¬ q = ra by omega), (show ¬ c = ra by omega), oneD, fpAt, fpOf, refOf, ldOf, fpNext, clashFree, FP.clash, FP.hard, FP.soft, overlap, inR, inMask, sameO, Nat.testBit, show ¬ m.nx + 1 ≤ m.nx by omega, show ¬ m.nx + 2 ≤ m.nx by omega, show ¬ m.nx + 2 ≤ m.nx + 1 by omega, show ¬ m.nx + 3 ≤ m.nx by omega, show ¬ m.nx + 3 ≤ m.nx + 1 by omega, show ¬ m.nx + 3 ≤ m.nx + 2 by omega] <;> rfl) ?_)
    all_goals dsimp only [okD, thenQ]
    repeat' first | (refine TW.regG hP (by simp <;> rfl) ?_; dsimp only [goK]) | simp only [roundL]
    refine ⟨k + 1, by omega, trivial, ?_, by omega, by rw [nx_z, nx_put]; exact hn, fun s h => ?_, .inr ⟨ra, fa, hfa, ?_, ?_, hra, ?_⟩⟩
    · repeat' first | exact less_nil | refine less_cons (by simp [w64s (show k < 9000000000000000000 by omega)]) ?_
    · rw [get_z, get_put, if_neg (fun e : ra = s => h (e ▸ hra))]; exact hs s h
    · intro e; have := hmem (k + 1); rw [e] at this; simp at this; omega
    · rw [hmem (k + 1)]
    · rw [get_z, get_put, if_pos rfl, ← hst, List.map_set]
  · simp at hc
    have hk2 : k = x.args.list.length := by omega
    subst hk2
    rw [List.take_length, List.drop_length, List.append_nil] at hi
    dsimp only [thenQ]
    repeat' first | simp only [blockQ, roundL, ↓reduceIte]
    refine ⟨.inl rfl, m, [], rfl, rfl, _, ?_, hqm, ⟨va, vf, Sa, Sf, rfl, hi, ?_, hsa, hsf⟩, by omega, fun s h1 h2 h3 => (hs s fun h => h3 (hsa s h).1).trans (h0r.2.2 s h2)⟩
    · rfl
    · refine IntO.locl g _ _ _ hf (fun _ h => h) fun s h => ?_
      rw [hs s fun h2 => (hsa s h2).2 h]
      exact h0r.2.2 s (hSj s (hsf s h)).1
end Go.Ax
set_option maxRecDepth 20000
noncomputable section
namespace Go.Ax
open Go.Proofs
attribute [local irreducible] TW TO CallsT PureC
variable {F : Nat → Option Obj} {gl : Nat → AV} {K : Knob} {S S' : Nat → Prop} {X : Type}
def tJ (f : LIns → LIns) (n : Nat) (b : LBlock) : LBlock := { ins := .mk ((b.ins.list.take n).map f ++ b.ins.list.drop n), ed := b.ed }
def curL (f : LIns → LIns) (bl : List LBlock) (k j : Nat) : List LBlock := bl.mapIdx fun i b => tJ f (if i < k then b.ins.list.length else if i = k then j else 0) b
theorem curL_len {f : LIns → LIns} {bl : List LBlock} {k j : Nat} : (curL f bl k j).length = bl.length := by simp [curL]
theorem curL_get {f : LIns → LIns} {bl : List LBlock} {k j : Nat} {b : LBlock} (h : bl[k]? = some b) : (curL f bl k j)[k]? = some (tJ f j b) := by
 unfold curL
 rw [List.getElem?_mapIdx, h]
 simp
theorem curL_set {f : LIns → LIns} {bl : List LBlock} {k j j' : Nat} {b : LBlock} (h : bl[k]? = some b) : (curL f bl k j).set k (tJ f j' b) = curL f bl k j' := by
 refine List.ext_getElem? fun i => ?_
 rw [List.getElem?_set]
 have hk := (List.getElem?_eq_some_iff.1 h).1
 by_cases e : k = i
 ·subst e
  rw [if_pos rfl, if_pos (by rw [curL_len]; exact hk), curL_get h]
 ·rw [if_neg e]
  unfold curL
  rw [List.getElem?_mapIdx, List.getElem?_mapIdx]
  simp [show ¬ i = k from fun h => e h.symm]
theorem curL_next {f : LIns → LIns} {bl : List LBlock} {k : Nat} {b : LBlock} (h : bl[k]? = some b) : curL f bl k b.ins.list.length = curL f bl (k + 1) 0 := by
  refine List.ext_getElem? fun i => ?_
  unfold curL
  rw [List.getElem?_mapIdx, List.getElem?_mapIdx]
  by_cases e : i = k
  · subst e
    rw [h]
    simp
  · cases hb : bl[i]? with
    | none => rfl
    | some c =>
      simp only [Option.map_some]
      by_cases h1 : i < k
      · rw [if_pos h1, if_pos (by omega)]
      · rw [if_neg h1, if_neg e, if_neg (by omega)]
        split <;> rfl
theorem curL_end {f : LIns → LIns} {bl : List LBlock} : curL f bl bl.length 0 = bl.map fun b => tJ f b.ins.list.length b := by
  refine List.ext_getElem? fun i => ?_
  unfold curL
  rw [List.getElem?_mapIdx, List.getElem?_map]
  cases hb : bl[i]? with
  | none => rfl
  | some c =>
    have := (List.getElem?_eq_some_iff.1 hb).1
    simp [this]
theorem curL_start {f : LIns → LIns} {bl : List LBlock} : curL f bl 0 0 = bl.map (tJ f 0) := by
 refine List.ext_getElem? fun i => ?_
 unfold curL
 rw [List.getElem?_mapIdx, List.getElem?_map]
 simp
theorem rows_same {es : Nat} {r1 r2 : List (List AV)} (h1 : RowsAt es r1) (h2 : RowsAt es r2) (he : 0 < es) (h : r1.flatten = r2.flatten) {i : Nat} {a b : List AV} (ha : r1[i]? = some a) (hb : r2[i]? = some b) : a = b := by
 have s1 := flat_sub (o := 0) (k := es) h1 ha (by omega)
 have s2 := flat_sub (o := 0) (k := es) h2 hb (by omega)
 rw [h, s2] at s1
 have l1 := h1 a (List.mem_of_getElem? ha)
 have l2 := h2 b (List.mem_of_getElem? hb)
 simp only [List.drop_zero, List.take_of_length_le (Nat.le_of_eq l1), List.take_of_length_le (Nat.le_of_eq l2)] at s1
 exact (Option.some.inj s1).symm
def turnN (T : Int → Int) (e : LEnd) : LEnd := { e with a := if e.kind = 2 ∨ e.kind = 3 then T e.a else e.a }
def turnK (T : Int → Int) (b : LBlock) : LBlock := { ins := .mk (b.ins.list.map (turnX T)), ed := turnN T b.ed }
structure RdB (Rd : Int → Prop) (b : LBlock) : Prop where
 ins : ∀ x ∈ b.ins.list, RdX Rd x
 ed : b.ed.kind = 2 ∨ b.ed.kind = 3 → Rd b.ed.a
set_option maxHeartbeats 4000000 in
theorem turn_mem (hP : POk Tryz.prog F gl K) (hX : ∀ f a, K.ext f a = none) (hG : gl NG_shape_table = .iptr [shapeCells] 0 0) {tf : FuncId} {caps : List AV} {T : Int → Int} {Rd : Int → Prop} (hto : ToFn F tf caps T Rd) (hcell : cellsOf (.fn (.func tf) [] caps) = some [.fn (.func tf) [] caps]) (q : Nat) (params : Int) (bv : AV) (bl : List LBlock) (Sb : Nat → Prop) (h : Hp)
  (hp0 : 0 ≤ params) (hp1 : params + many6 bl < 1000000000) (hnb : bl.length < 1000000) (hq : h.get q = some (.cells 69 [.int .i64 params, bv])) (hqn : q < h.nx) (hqS : ¬ Sb q) (hB : SlO AnyF (BlkO AnyF) 5 T_block bv bl h Sb) (hSb : ∀ s, Sb s → s < h.nx) (hr : ∀ b ∈ bl, RdB Rd b) :
  CallsT Tryz.prog F h (fun _ g => h.nx ≤ g.nx ∧ (∀ s, s < h.nx → ¬ Sb s → g.get s = h.get s) ∧ SlO AnyF (BlkO AnyF) 5 T_block bv (bl.map (turnK T)) g Sb) N_tidy_function_turn [.ptr q 0, .fn (.func tf) [] caps] := by
 refine CallsT.body hP nix_sound E_tidy_function_turn rfl rfl ?_
 obtain ⟨z1, z2, z3, z4⟩ := hB.len
 refine TW.seq (TW.regG hP (by simp [hcell] <;> rfl) ?_)
 dsimp only [goK, thenQ, blockQ, roundL]
 refine TW.gen (fun g => g.get h.nx = some (.cells 77 [.fn (.func tf) [] caps]) ∧ Wid h g ∧ h.nx < g.nx) ⟨by simp, (Wid.refl h).new _, by simp⟩ fun g hg => ?_
 obtain ⟨g1, hw, hn⟩ := hg
 have hmono := many6_le bl
 have hb0 := SlO.locl BlkO.locl _ g _ Sb hB (fun _ h => h) (agr_wid hw hSb)
 have hst : SlO AnyF (BlkO AnyF) 5 T_block bv (curL (turnX T) bl 0 0) g Sb := by
  rw [curL_start]
  exact hb0.conv fun b _ row h S ⟨u, h1, h2⟩ => ⟨u, h1, by simpa [tJ, Sl.list] using h2⟩
 refine TW.seq (TW.regG hP (by simp <;> rfl) ?_)
 dsimp only [goK, thenQ, blockQ, roundL]
 refine TO.ccall hP I_tidy_function_each (each_mem hP q params bv bl N_tidy_function_turn_1 [.ptr h.nx 0] I_tidy_function_turn_1 (fun k j m => h.nx < m.nx ∧ m.get h.nx = some (.cells 77 [.fn (.func tf) [] caps]) ∧ (∀ s, s < h.nx → ¬ Sb s → m.get s = h.get s) ∧ SlO AnyF (BlkO AnyF) 5 T_block bv (curL (turnX T) bl k j) m Sb) hp0 hp1 hnb ?_ ?_ ?_ ?_ g ⟨hn, g1, fun s h1 _ => hw.get s h1, hst⟩) (by simp) rfl rfl rfl rfl (fun v m hm => ?_)
 ·rintro k j m ⟨w1, w2, w3, w4⟩
  exact ⟨(w3 q hqn hqS).trans hq, z1, z2⟩
 ·rintro k j m b ⟨w1, w2, w3, w4⟩ hb
  have := BlkO.at w4 (curL_get (f := turnX T) (j := j) hb)
  rw [curL_len] at this
  have e : (tJ (turnX T) j b).ins.list.length = b.ins.list.length := mapTake_len
  rwa [e] at this
 ·rintro k j m b rb fb rowsb e qi fi ⟨w1, w2, w3, w4⟩ hb hj B
  obtain ⟨x, hx⟩ := get_of_lt hj
  have hbm := hr b (List.mem_of_getElem? hb)
  obtain ⟨fx, r, rows, row, Si, hv, hrS, hgr, hrows, hri, hrl, hSi, ⟨u, rfl, hI⟩, wand⟩ := w4.at BlkO.locl (curL_get (f := turnX T) (j := j) hb)
  have hbv := B.bv
  rw [curL_len] at hv
  rw [hv] at hbv
  cases hbv
  have hfl : rows.flatten = rowsb.flatten := by have := B.get; rw [hgr] at this; exact (AObj.cells.inj (Option.some.inj this)).2
  have hru := rows_same hrows B.rows (by omega) hfl hri B.row
  obtain ⟨rfl, hee⟩ := List.cons.inj hru
  obtain ⟨fi', qi', rows2, row2, Sj, hv2, hq2, hg2, hrows2, hri2, hrl2, hSj, hI2, wand2⟩ := hI.at InsO.locl (show (tJ (turnX T) j b).ins.list[j]? = some x from mapTake_get hx)
  have e2 : (tJ (turnX T) j b).ins.list.length = b.ins.list.length := mapTake_len
  rw [e2] at hv2
  cases hv2
  have hSjb : ∀ s, Sj s → Sb s ∧ s ≠ qi ∧ s ≠ rb ∧ s < h.nx := fun s hs => ⟨(hSi s (hSj s hs).1).1, (hSj s hs).2, (hSi s (hSj s hs).1).2, hSb s (hSi s (hSj s hs).1).1⟩
  have hqi := hSb qi (hSi qi hq2).1
  refine (turn1_mem hP hX hG hto h.nx qi j _ rows2 row2 x Sj m w2 hg2 hrows2 hri2 hI2 (fun s hs => ⟨(hSjb s hs).2.1, by have := hSjb s hs; omega, by have := hSjb s hs; omega⟩) (by omega) w1 (by omega) (hbm.ins x (List.mem_of_getElem? hx))).mono fun _ m' ⟨row', p1, p2, p3, p4, p5⟩ => ?_
  have ag : ∀ s, s < h.nx → ¬ Si s → m'.get s = m.get s := fun s h1 h2 => p5 s (by omega) (fun e => h2 (e ▸ hq2)) fun h3 => h2 (hSj s h3).1
  have hin := wand2 m' Sj (turnX T x) row' p1 p2 (fun s h1 h2 h3 => p5 s (by have := hSb s (hSi s h1).1; omega) h3 h2) (fun s hs => .inl hs) p3 Si (fun s hs => hs) (fun s hs => (hSj s hs).1)
  refine ⟨by omega, (p5 _ w1 (by omega) fun h3 => by have := hSjb _ h3; omega).trans w2, fun s h1 h2 => (ag s h1 fun h3 => h2 (hSi s h3).1).trans (w3 s h1 h2), ?_⟩
  rw [← curL_set (j := j) (j' := j + 1) hb]
  refine wand m' Si (tJ (turnX T) (j + 1) b) (.sl qi 0 b.ins.list.length b.ins.list.length 7 fi :: (tJ (turnX T) j b).ed.cells) rfl ?_ (fun s h1 h2 h3 => ag s (hSb s h1) h2) (fun s hs => .inl hs) ⟨_, rfl, ?_⟩ Sb (fun s hs => hs) (fun s hs => (hSi s hs).1)
  ·rw [set_self' hri]
   exact (ag rb (hSb rb hrS) fun h3 => (hSi rb h3).2 rfl).trans hgr
  ·have e3 : (tJ (turnX T) (j + 1) b).ins.list = (tJ (turnX T) j b).ins.list.set j (turnX T x) := (mapTake_set hx).symm
   rw [e3]; exact hin
 ·rintro k b m hb ⟨w1, w2, w3, w4⟩
  exact ⟨w1, w2, w3, by rw [← curL_next hb]; exact w4⟩
 obtain ⟨w1, w2, w3, w4⟩ := hm
 rw [curL_end] at w4
 refine TO.runsG hP (by simp <;> rfl) ?_
 try dsimp only [goK]
 have hlT : ∀ b ∈ bl.map (fun b => tJ (turnX T) b.ins.list.length b), b.ed.kind = 2 ∨ b.ed.kind = 3 → Rd b.ed.a := fun b hb => by
  obtain ⟨c, hc, rfl⟩ := List.mem_map.1 hb
  exact (hr c hc).ed
 have hlen2 : (bl.map (fun b => tJ (turnX T) b.ins.list.length b)).length = bl.length := List.length_map ..
 have hfin : (bl.map (fun b => tJ (turnX T) b.ins.list.length b)).map (fun b => { b with ed := turnN T b.ed }) = bl.map (turnK T) := by
  rw [List.map_map]
  refine List.map_congr_left fun b _ => ?_
  show ({ ins := .mk ((b.ins.list.take b.ins.list.length).map (turnX T) ++ b.ins.list.drop b.ins.list.length), ed := turnN T b.ed } : LBlock) = turnK T b
  rw [mapTake_all]; rfl
 rw [← hfin]
 generalize bl.map (fun b => tJ (turnX T) b.ins.list.length b) = bT at w4 hlT hlen2
 clear hfin hst hb0 hB hr
 have hqm : m.get q = _ := (w3 q hqn hqS).trans hq
 have hlv := fun h => len_of (C := Ctx.of Tryz.prog gl K) (t := T_blocks) (h := h) z1 z2
 dsimp only [T_blocks] at hlv
 dsimp only [thenQ]
 repeat' first | refine TW.seq ?_ | refine TW.block ?_ | (refine TW.regG hP (by simp [hqm, hlv] <;> rfl) ?_; dsimp only [goK])
 refine TW.loopL (fun i : Nat => [(0, .ptr q 0), (3, .ptr h.nx 0), (13, .int .i64 bl.length), (14, .int .i64 i)]) (fun i m => i ≤ bl.length ∧ h.nx < m.nx ∧ m.get h.nx = some (.cells 77 [.fn (.func tf) [] caps]) ∧ (∀ s, s < h.nx → ¬ Sb s → m.get s = h.get s) ∧ SlO AnyF (BlkO AnyF) 5 T_block bv ((bT.take i).map (fun b => { b with ed := turnN T b.ed }) ++ bT.drop i) m Sb) (fun i => bl.length - i) (0) ?_ ?_ ?_
 focus (repeat' first | exact less_nil | refine less_cons (by simp) ?_)
 ·exact ⟨Nat.zero_le _, w1, w2, w3, by simpa using w4⟩
 clear w1 w2 w3 w4 hqm hlv m
 rintro i m ⟨hi, w1, w2, w3, w4⟩
 have hqm : m.get q = _ := (w3 q hqn hqS).trans hq
 repeat' first | refine TW.seq ?_ | (refine TW.regG hP (by simp <;> rfl) ?_; dsimp only [goK])
 refine TW.cond hP rfl (fun hc => TW.skip ?_) (fun hc => TW.exit ?_)
 ·simp at hc
  obtain ⟨b, hb⟩ := get_of_lt (l := bT) (i := i) (by omega)
  obtain ⟨fx, r, rows, row, Si, hv, hrS, hgr, hrows, hri, hrl, hSi, ⟨u, rfl, hI⟩, wand⟩ := w4.at BlkO.locl (mapTake_get hb)
  rw [mapTake_len, hlen2] at hv
  subst hv
  have hrn := hSb r hrS
  have hqr : ¬ q = r := fun e => hqS (e ▸ hrS)
  have hL2 := fun t o => load_arr (C := Ctx.of Tryz.prog gl K) (t := t) (o := o) hgr hrows hri
  have e1 := Ends_pure hP b.ed
  have fin : ∀ m6 : Hp, m6.nx = m.nx → m6.get r = some (.cells T_block (rows.set i (u :: (turnN T b.ed).cells)).flatten) → (∀ s, s ≠ r → m6.get s = m.get s) → h.nx < m6.nx ∧ m6.get h.nx = some (.cells 77 [.fn (.func tf) [] caps]) ∧ (∀ s, s < h.nx → ¬ Sb s → m6.get s = h.get s) ∧ SlO AnyF (BlkO AnyF) 5 T_block (.sl r 0 bl.length bl.length 5 fx) ((bT.take (i + 1)).map (fun b => { b with ed := turnN T b.ed }) ++ bT.drop (i + 1)) m6 Sb := fun m6 h1 h2 h3 => by
   refine ⟨by omega, (h3 _ (by omega)).trans w2, fun s g1 g2 => (h3 s fun e => g2 (e ▸ hrS)).trans (w3 s g1 g2), ?_⟩
   rw [← mapTake_set (f := fun b => { b with ed := turnN T b.ed }) hb]
   refine wand m6 Si { b with ed := turnN T b.ed } (u :: (turnN T b.ed).cells) rfl h2 (fun s g1 g2 g3 => h3 s g3) (fun s hs => .inl hs) ⟨u, rfl, SlO.locl InsO.locl _ _ _ _ hI (fun _ h => h) fun s hs => h3 s (hSi s hs).2⟩ Sb (fun s hs => hs) (fun s hs => (hSi s hs).1)
  dsimp only [thenQ]
  by_cases hk : b.ed.kind = 2 ∨ b.ed.kind = 3
  ·simp only [endsS, if_pos hk, slOf, List.map_cons, List.map_nil, LEnd.cells, cI] at e1
   have ea := hto.pure b.ed.a (hlT b (List.mem_of_getElem? hb) hk)
   repeat' first | refine TW.seq ?_ | refine TW.block ?_ | refine TW.condT hP rfl ?_ | (refine TW.regG hP (by simp [hqm, hL2, loadRow, sizeOk, hc] <;> rfl) ?_; dsimp only [goK]) | (refine TO.scall hP I_shape_Ends (e1) ?_ rfl rfl rfl rfl ?_; (focus (simp; done)); refine TO.runsG hP (by simp <;> rfl) ?_; dsimp only [goK])
   obtain ⟨fn, hfn, hfb⟩ := hto.fn
   have hG2 := fun (gl : Nat → AV) (K : Knob) => (fn_of (P := Tryz.prog) (gl := gl) (K := K)).trans hfn
   have hL3 := fun t o => load_arr (h := m.up) (C := Ctx.of Tryz.prog gl (K.tell [(tf, .int .i64 b.ed.a :: caps, .int .i64 (T b.ed.a))])) (t := t) (o := o) (by rw [up_get]; exact hgr) hrows hri
   have hSt := store1 (h := m.up) (C := Ctx.of Tryz.prog gl (K.tell [(tf, .int .i64 b.ed.a :: caps, .int .i64 (T b.ed.a))])) (v := .int .i64 (T b.ed.a)) (o := 2) (by rw [up_get]; exact hgr) hrows hri rfl rfl (by omega)
   dsimp only [T_block, LEnd.cells] at hSt hL3
   try refine TW.seq ?_
   refine TW.drawH hP [(tf, (AV.int .i64 b.ed.a :: caps), .int .i64 (T b.ed.a))] (fun e he => by rcases List.mem_cons.1 he with rfl | he; exact ea; cases he) [0, 0, 0, 4, 12, 28, 62, 127, 255, 511] (by kernel_rfl) (by kernel_rfl) (by simp [hX, w2, hL3, loadRow, sizeOk, hSt, -storeAt, sz1, hG2, hfb, Nat.add_assoc, (show ¬ m.nx ≤ r by omega), (show ¬ r = h.nx by omega), oneD, fpAt, fpOf, refOf, ldOf, fpNext, clashFree, FP.clash, FP.hard, FP.soft, overlap, inR, inMask, sameO, Nat.testBit] <;> rfl) ?_
   repeat' (refine okD_guard (fun hb => ?_) (fun hb => ?_) <;> (try simp only [Bool.not_eq_eq_eq_not, Bool.not_true, Bool.not_false] at hb) <;> refine okD_eq (by simp [hb, hX, w2, hL3, loadRow, sizeOk, hSt, -storeAt, sz1, hG2, hfb, hc, Nat.add_assoc, (show ¬ m.nx ≤ h.nx by omega), (show ¬ m.nx ≤ r by omega), (show ¬ r = h.nx by omega), (show ¬ h.nx = r by omega), oneD, fpAt, fpOf, refOf, ldOf, fpNext, clashFree, FP.clash, FP.hard, FP.soft, overlap, inR, inMask, sameO, Nat.testBit, show ¬ m.nx + 1 ≤ m.nx by omega, show ¬ m.nx + 2 ≤ m.nx by omega, show ¬ m.nx + 2 ≤ m.nx + 1 by omega, show ¬ m.nx + 3 ≤ m.nx by omega, show ¬ m.nx + 3 ≤ m.nx + 1 by omega, show ¬ m.nx + 3 ≤ m.nx + 2 by omega] <;> rfl) ?_)
   all_goals dsimp only [okD, thenQ]
   repeat' first | (refine TW.regG hP (by simp <;> rfl) ?_; dsimp only [goK]) | simp only [roundL]
   refine ⟨i + 1, by omega, trivial, ?_, by omega, fin _ (by rw [nx_z, nx_put]) ?_ fun s hs => by rw [get_z, get_put, if_neg (Ne.symm hs)]⟩
   ·repeat' first | exact less_nil | refine less_cons (by simp [w64s (show i < 9000000000000000000 by omega)]) ?_
   ·rw [get_z, get_put, if_pos rfl]
    simp [turnN, hk, LEnd.cells]
  ·simp only [endsS, if_neg hk, slOf, LEnd.cells] at e1
   repeat' first | refine TW.seq ?_ | refine TW.block ?_ | refine TW.skip ?_ | refine TW.condF hP rfl ?_ | (refine TW.regG hP (by simp [hqm, hL2, loadRow, sizeOk, hc] <;> rfl) ?_; dsimp only [goK]) | (refine TO.scall hP I_shape_Ends (e1) ?_ rfl rfl rfl rfl ?_; (focus (simp; done)); refine TO.runsG hP (by simp <;> rfl) ?_; dsimp only [goK]) | simp only [roundL]
   refine ⟨i + 1, by omega, trivial, ?_, by omega, fin _ rfl ?_ fun _ _ => rfl⟩
   ·repeat' first | exact less_nil | refine less_cons (by simp [w64s (show i < 9000000000000000000 by omega)]) ?_
   ·have e : turnN T b.ed = b.ed := by unfold turnN; rw [if_neg hk]
    rw [e, set_self' hri]; exact hgr
 ·simp at hc
  have hi2 : i = bT.length := by omega
  subst hi2
  rw [mapTake_all] at w4
  dsimp only [thenQ]
  repeat' first | simp only [blockQ, roundL, ↓reduceIte]
  exact ⟨.inl rfl, m, [], rfl, rfl, by omega, w3, w4⟩
theorem uses6_le (y : LIns) : (uses6 y).length ≤ y.args.list.length + 2 := by
 unfold uses6
 simp only [List.length_append]
 split <;> split <;> split <;> simp <;> omega
def kpq (ls : List Int) (r0 : Int) (y : LIns × Nat) : Bool := !(ls.any fun z => decide (r0 + y.2 = z))
def kpL (ls : List Int) (r0 : Int) (l : List (LIns × Nat)) : List LIns := (l.filter (kpq ls r0)).map (·.1)
def kpB (ls : List Int) (r0 : Int) (b : LBlock) : LBlock := { ins := .of (kpL ls r0 b.ins.list.zipIdx), ed := b.ed }
def keptB (ls : List Int) (params : Int) (bl : List LBlock) : List LBlock := bl.mapIdx fun i b => kpB ls (params + many6 (bl.take i)) b
end Go.Ax
set_option maxRecDepth 20000
noncomputable section
namespace Go.Ax
open Go.Proofs
attribute [local irreducible] TW TO CallsT PureC
variable {F : Nat → Option Obj} {gl : Nat → AV} {K : Knob} {S S' : Nat → Prop} {X : Type}
section
variable {P : Program} {C : Ctx} {ih : Code → St → Res} {s : St} {dd : Option Nat} {x y : Operand} {ts : Array TypeId} {tl : List TypeId} {ty : TypeId} {pos : String} {aft : Array Edge} {gd : Option (Nat × Bool)} {h : Hp} {a b : Int}
theorem b_min : builtinA C .min tl [.int .i64 a, .int .i64 b] h = some (.val (.int .i64 (if b < a then b else a)) h) := by
 show some (OpR.val (.int .i64 (bif ltI b a then b else a)) h) = _
 rw [ltI_eq]
 by_cases hb : b < a <;> simp [hb]
theorem b_max : builtinA C .max tl [.int .i64 a, .int .i64 b] h = some (.val (.int .i64 (if a < b then b else a)) h) := by
 show some (OpR.val (.int .i64 (bif ltI a b then b else a)) h) = _
 rw [ltI_eq]
 by_cases hb : a < b <;> simp [hb]
end
attribute [simp] a_min a_max b_min b_max
def ProgM (n0 : Nat) (tl : List LType) (fl : List LFunc) (v : AV) (g : Hp) : Prop :=
 ∃ tv fv ST SF, v = .agg [tv, fv] ∧ SlO AnyF (TypO AnyF) 4 T_type tv tl g ST ∧ SlO AnyF (FunO AnyF) 2 T_func fv fl g SF ∧ (∀ s, ST s → n0 ≤ s ∧ s < g.nx ∧ ¬ SF s) ∧ ∀ s, SF s → n0 ≤ s ∧ s < g.nx
theorem ProgM.put {n0 : Nat} {tl : List LType} {fl : List LFunc} {v : AV} {g m : Hp} (H : ProgM n0 tl fl v g) (hn : g.nx ≤ m.nx) (hs : ∀ s, n0 ≤ s → s < g.nx → m.get s = g.get s) : ProgM n0 tl fl v m := by
 obtain ⟨tv, fv, ST, SF, h1, h2, h3, h4, h5⟩ := H
 exact ⟨tv, fv, ST, SF, h1, SlO.locl TypO.locl _ _ _ _ h2 (fun _ h => h) fun s hs' => hs s (h4 s hs').1 (h4 s hs').2.1, SlO.locl FunO.locl _ _ _ _ h3 (fun _ h => h) fun s hs' => hs s (h5 s hs').1 (h5 s hs').2, fun s hs' => ⟨(h4 s hs').1, by have := h4 s hs'; omega, (h4 s hs').2.2⟩, fun s hs' => ⟨(h5 s hs').1, by have := h5 s hs'; omega⟩⟩
theorem ProgM.low {n0 n1 : Nat} {tl : List LType} {fl : List LFunc} {v : AV} {g : Hp} (H : ProgM n0 tl fl v g) (hn : n1 ≤ n0) : ProgM n1 tl fl v g := by
 obtain ⟨tv, fv, ST, SF, h1, h2, h3, h4, h5⟩ := H
 exact ⟨tv, fv, ST, SF, h1, h2, h3, fun s hs' => ⟨by have := h4 s hs'; omega, (h4 s hs').2⟩, fun s hs' => ⟨by have := h5 s hs'; omega, (h5 s hs').2⟩⟩
def noV : AV := .agg [.nilsl, .nilsl]
def setF (p : LProg) (f : Nat) (x : LFunc) (bl : List LBlock) : List LFunc := p.funcs.list.set f { x with blocks := .mk bl }
theorem rdB_of {p : LProg} {x : LFunc} (h : mayFunc6 p x = true) (hs : SmallF x) (ho : OpsOk x) : ∀ b ∈ x.blocks.list, RdB (fun r => 0 ≤ r ∧ r < (regs6 p x).toNat) b := fun b hb => by
 obtain ⟨r1, r2, r3, r4⟩ := regsIn_of h b hb
 exact ⟨fun y hy => ⟨r1 y hy, r2 y hy, r3 y hy, ho.op b hb y hy, hs.args b hb y hy⟩, r4⟩
def swapT (a b : Int) : Int → Int := fun r => if r = a then b else r
def swapE (p : LProg) (f a b : Int) : Int := if asked6 p f = 0 then (match p.funcs.list[f.toNat]? with
 | some x => if a < 0 ∨ b < 0 ∨ regs6 p x ≤ a ∨ regs6 p x ≤ b then 2 else 0
 | none => 0) else asked6 p f
set_option maxHeartbeats 4000000 in
theorem Swap_mem (hV : Env F gl K) (p : LProg) (f a b : Int) (hs : SmallP p) (ho : OpsP p) (h0 : Hp) :
  CallsT Tryz.prog F h0 (fun v g => Wid h0 g ∧ ((swapE p f a b ≠ 0 ∧ v = .tup [noV, .int .i64 (swapE p f a b)]) ∨ (swapE p f a b = 0 ∧ ∃ x u, p.funcs.list[f.toNat]? = some x ∧ asked6 p f = 0 ∧ v = .tup [u, .int .i64 0] ∧ ProgM h0.nx p.types.list (setF p f.toNat x (x.blocks.list.map (turnK (swapT a b)))) u g))) N_tidy_Swap [.agg p.cells, .int .i64 f, .int .i64 a, .int .i64 b] := by
 have hP := hV.P
 have hX := hV.X
 refine CallsT.body hP nix_sound E_tidy_Swap rfl rfl ?_
 refine TW.seq (TW.regG hP (by simp <;> rfl) ?_)
 dsimp only [goK, thenQ, blockQ, roundL]
 refine TW.gen (fun g => g.get h0.nx = some (.cells T_prog p.cells) ∧ g.get (h0.nx + 1) = some (.cells T_int [.int .i64 a]) ∧ g.get (h0.nx + 2) = some (.cells T_int [.int .i64 b]) ∧ g.get (h0.nx + 3) = some (.cells T_prog [.nilsl, .nilsl]) ∧ Wid h0 g ∧ g.nx = h0.nx + 4) ⟨by simp [show ¬ h0.nx + 1 + 1 + 1 = h0.nx by omega, show ¬ h0.nx + 1 + 1 = h0.nx by omega], by simp [show ¬ h0.nx + 1 + 1 = h0.nx by omega], by simp <;> omega, by simp <;> omega, ((((Wid.refl h0).new _).new _).new _).new _, by simp⟩ fun g hg => ?_
 obtain ⟨g0, g1, g2, g3, hw0, hn0⟩ := hg
 dsimp only [T_prog, T_int, LProg.cells] at g0 g1 g2 g3
 repeat' first | refine TW.seq ?_ | (refine TW.regG hP (by simp [g0] <;> rfl) ?_; dsimp only [goK])
 refine TO.ccall hP I_tidy_of (of_mem hV p f hs ho g) (by simp) rfl rfl rfl rfl (fun v k ⟨hwk, hv⟩ => ?_)
 have nk := hwk.nx
 have k1 : k.get (h0.nx + 1) = _ := (hwk.get _ (by omega)).trans g1
 have k2 : k.get (h0.nx + 2) = _ := (hwk.get _ (by omega)).trans g2
 have k3 : k.get (h0.nx + 3) = _ := (hwk.get _ (by omega)).trans g3
 rcases hv with ⟨hne, rfl⟩ | ⟨ha, x, u, q, bv, Sb, W, hx, rfl, hO⟩
 ·refine TO.runsG hP (by simp <;> rfl) ?_
  try dsimp only [goK]
  repeat' first | refine TW.seq ?_ | refine TW.condT hP rfl ?_ | (refine TW.regG hP (by simp [k3, hne] <;> rfl) ?_; dsimp only [goK]) | simp only [thenQ]
  have he : swapE p f a b = asked6 p f := by unfold swapE; rw [if_neg hne]
  refine TW.ret ⟨.inr rfl, _, [noV, .int .i64 (asked6 p f)], rfl, by simp [resK, get_put, noV], ?_⟩
  rw [he]
  exact ⟨(((hw0.trans hwk).new _).put (by omega) _).put (by omega) _, .inl ⟨hne, rfl⟩⟩
 ·obtain ⟨c1, c2, c3⟩ := asked6_ok ha
  obtain ⟨n, rfl⟩ := Int.eq_ofNat_of_zero_le c2
  have hmf := (check6_funcs c1).2.1 x (List.mem_of_getElem? hx)
  obtain ⟨a1, a2, a3, a4, a5, a6⟩ := mayFunc6_sig hmf
  obtain ⟨r1, r2⟩ := regs6_small hmf hs.parts
  have hsx := hs.funcs x (List.mem_of_getElem? hx)
  have hox := ho.op x (List.mem_of_getElem? hx)
  have hm0 := many6_nonneg x.blocks.list
  have hsp : 0 ≤ sigParts p x := by unfold sigParts; split <;> omega
  have hrg : regs6 p x = sigParts p x + many6 x.blocks.list := rfl
  have he : swapE p n a b = if a < 0 ∨ b < 0 ∨ regs6 p x ≤ a ∨ regs6 p x ≤ b then 2 else 0 := by
   unfold swapE; rw [if_pos ha, hx]
  obtain ⟨tv0, fv0, ST0, SF0, rfl, hT0, hF0, _, _⟩ := hO.close k x.blocks.list Sb (fun _ _ _ => rfl) (fun s hs => .inl hs) hO.blk
  obtain ⟨_, _, d1, d2⟩ := hT0.len
  obtain ⟨_, _, d3, d4⟩ := hF0.len
  refine TO.runsG hP (by simp [d1, d3] <;> rfl) ?_
  try dsimp only [goK, thenQ]
  refine TW.gen (fun m => m.get (h0.nx + 1) = some (.cells T_int [.int .i64 a]) ∧ m.get (h0.nx + 2) = some (.cells T_int [.int .i64 b]) ∧ m.get (h0.nx + 3) = some (.cells T_prog [.nilsl, .nilsl]) ∧ m.get k.nx = some (.cells T_prog [tv0, fv0]) ∧ Wid k m ∧ m.nx = k.nx + 1) ⟨?_, ?_, ?_, ?_, ?_, ?_⟩ fun m hm => ?_
  ·rw [get_put, if_neg (by omega), get_new, if_neg (by omega)]; exact k1
  ·rw [get_put, if_neg (by omega), get_new, if_neg (by omega)]; exact k2
  ·rw [get_put, if_neg (by omega), get_new, if_neg (by omega)]; exact k3
  ·rw [get_put, if_pos rfl]
  ·exact ((Wid.refl k).new _).put (Nat.le_refl _) _
  ·rw [nx_put, nx_new]
  obtain ⟨m1, m2, m3, m4, hwm, hnm⟩ := hm
  dsimp only [T_prog, T_int] at m1 m2 m3 m4
  have hq1 := hO.q0
  have hSb : ∀ s, Sb s → s < k.nx := fun s hs => (hO.rng s (hO.sub s hs)).2
  have hqm : m.get q = _ := (hwm.get q hq1.2.1).trans hO.obj
  have hBm := SlO.locl BlkO.locl _ m _ Sb hO.blk (fun _ h => h) (agr_wid hwm hSb)
  repeat' first | refine TW.seq ?_ | refine TW.skip ?_ | refine TW.condF hP rfl ?_ | (refine TW.regG hP (by simp <;> rfl) ?_; dsimp only [goK])
  refine TO.ccall hP I_tidy_function_many (many_mem hP q (sigParts p x) bv x.blocks.list Sb hsp (by omega) (by omega) m hqm (by omega) hBm (fun s hs => by have := hSb s hs; omega)) (by simp) rfl rfl rfl rfl (fun v4 g4 ⟨hw4, hv4⟩ => ?_)
  rw [← hrg] at hv4
  subst hv4
  have q1 : g4.get (h0.nx + 1) = _ := (hw4.get _ (by omega)).trans m1
  have q2 : g4.get (h0.nx + 2) = _ := (hw4.get _ (by omega)).trans m2
  have q3 : g4.get (h0.nx + 3) = _ := (hw4.get _ (by omega)).trans m3
  have q4 : g4.get k.nx = _ := (hw4.get _ (by omega)).trans m4
  have nw4 := hw4.nx
  refine TO.runsG hP (by simp <;> rfl) ?_
  try dsimp only [goK, thenQ]
  by_cases hab : a < 0 ∨ b < 0 ∨ regs6 p x ≤ a ∨ regs6 p x ≤ b
  ·rw [if_pos hab] at he
   have fin : ∀ m' : Hp, m' = g4.put (h0.nx + 1 + 1 + 1) (.cells 25 [.nilsl, .nilsl]) → Wid h0 m' ∧ ((swapE p n a b ≠ 0 ∧ AV.tup [noV, .int .i64 2] = .tup [noV, .int .i64 (swapE p n a b)]) ∨ (swapE p n a b = 0 ∧ ∃ x u, p.funcs.list[(n : Int).toNat]? = some x ∧ asked6 p n = 0 ∧ AV.tup [noV, .int .i64 2] = .tup [u, .int .i64 0] ∧ ProgM h0.nx p.types.list (setF p (n : Int).toNat x (x.blocks.list.map (turnK (swapT a b)))) u m')) := fun m' hm => by
    subst hm
    refine ⟨?_, .inl ⟨by rw [he]; decide, by rw [he]⟩⟩
    exact (((hw0.trans hwk).trans hwm).trans hw4).put (by omega) _
   by_cases hmn : (if b < a then b else a) < 0
   ·repeat' first | refine TW.seq ?_ | refine TW.condT hP rfl ?_ | (refine TW.regG hP (by simp [q1, q2, q3, hmn] <;> rfl) ?_; dsimp only [goK]) | simp only [thenQ]
    refine TW.ret ⟨.inr rfl, _, [noV, .int .i64 2], rfl, by simp [resK, get_put, noV], fin _ rfl⟩
   ·have hmx : regs6 p x ≤ (if a < b then b else a) := by
     split at hmn <;> split <;> omega
    repeat' first | refine TW.seq ?_ | refine TW.condT hP rfl ?_ | (refine TW.regG hP (by simp [q1, q2, q3, hmn, hmx] <;> rfl) ?_; dsimp only [goK]) | simp only [thenQ]
    refine TW.ret ⟨.inr rfl, _, [noV, .int .i64 2], rfl, by simp [resK, get_put, noV], fin _ rfl⟩
  ·rw [if_neg hab] at he
   have hmn : ¬ (if b < a then b else a) < 0 := by split <;> omega
   have hmx : ¬ regs6 p x ≤ (if a < b then b else a) := by split <;> omega
   refine TW.seq (TW.regG hP (by simp [q1, q2, hmn, hmx] <;> rfl) ?_)
   dsimp only [goK, thenQ, blockQ, roundL]
   first | refine TW.condF hP rfl (TW.skip ?_)
   dsimp only [thenQ]
   have hfz : ∀ (r : Nat) (i : Int) (g : Hp), g.get r = some (.cells 3 [.int .i64 i]) → frzV 2 g (.ptr r 0) = some (.iptr [[.int .i64 i]] 0 0) := fun r i g hg => by
    unfold frzV
    dsimp only
    rw [hg]
    rfl
   refine TW.freeze (l' := [(6, .iptr [[.int .i64 a]] 0 0), (7, .iptr [[.int .i64 b]] 0 0), (8, .ptr (h0.nx + 3) 0), (10, .ptr k.nx 0), (11, .ptr q 0)]) (fun s => s = h0.nx + 1 ∨ s = h0.nx + 2) (frz_turn (k := 2) rfl (fun g hg => hfz _ _ g ((hg _ (.inl rfl)).trans q1)) (frz_turn (k := 2) rfl (fun g hg => hfz _ _ g ((hg _ (.inr rfl)).trans q2)) (frz_keep rfl (frz_keep rfl (frz_keep rfl frz_nil))))) ?_
   generalize hW : (g4.wo fun s => s = h0.nx + 1 ∨ s = h0.nx + 2) = w
   have hwo : ∀ s, s ≠ h0.nx + 1 → s ≠ h0.nx + 2 → w.get s = g4.get s := fun s h1 h2 => by rw [← hW]; exact wo_get fun h => h.elim h1 h2
   have hwn : w.nx = g4.nx := by rw [← hW, wo_nx]
   have hrng : ∀ s, W s → g.nx ≤ s ∧ s < k.nx := hO.rng
   have hcp : ∀ s, g.nx ≤ s → s < k.nx → w.get s = k.get s := fun s h1 h2 => by rw [hwo s (by omega) (by omega), hw4.get s (by omega), hwm.get s h2]
   have hBw := SlO.locl BlkO.locl _ w _ Sb hO.blk (fun _ h => h) fun s hs => hcp s (hrng s (hO.sub s hs)).1 (hrng s (hO.sub s hs)).2
   have hto : ToFn F N_tidy_Swap_1 [.iptr [[.int .i64 a]] 0 0, .iptr [[.int .i64 b]] 0 0] (swapT a b) (fun r => 0 ≤ r ∧ r < (regs6 p x).toNat) := ⟨fun r h => swap1_pure hP a b r, _, E_tidy_Swap_1, rfl⟩
   repeat' first | refine TW.seq ?_ | (refine TW.regG hP (by simp <;> rfl) ?_; dsimp only [goK])
   refine TO.ccall hP I_tidy_function_turn (turn_mem hP hX hV.G hto rfl q (sigParts p x) bv x.blocks.list Sb w hsp (by omega) (by omega) ((hcp q hq1.1 hq1.2.1).trans hO.obj) (by omega) (fun h => hq1.2.2 (hO.sub q h)) hBw (fun s hs => by have := hSb s hs; omega) (rdB_of hmf hsx hox)) (by simp) rfl rfl rfl rfl (fun v5 g5 ⟨p1, p2, p3⟩ => ?_)
   refine TO.runsG hP (by simp <;> rfl) ?_
   try dsimp only [goK]
   obtain ⟨tv1, fv1, ST1, SF1, hv1, hT1, hF1, hST1, hSF1⟩ := hO.close g5 _ Sb (fun s h1 h2 => (p2 s (by have := hrng s h1; omega) h2).trans (hcp s (hrng s h1).1 (hrng s h1).2)) (fun s hs => .inl hs) p3
   cases hv1
   have hq10 : g5.get k.nx = _ := (p2 k.nx (by omega) fun h => by have := hSb _ h; omega).trans ((hwo _ (by omega) (by omega)).trans q4)
   have hq8 : g5.get (h0.nx + 3) = _ := (p2 _ (by omega) fun h => by have := hrng _ (hO.sub _ h); omega).trans ((hwo _ (by omega) (by omega)).trans q3)
   repeat' first | refine TW.seq ?_ | (refine TW.regG hP (by simp [hq10, hq8, d1, d3] <;> rfl) ?_; dsimp only [goK]) | simp only [thenQ]
   have hpm : ProgM g.nx p.types.list (setF p n x (x.blocks.list.map (turnK (swapT a b)))) (.agg [tv0, fv0]) g5 := by
    refine ⟨tv0, fv0, ST1, SF1, rfl, hT1, hF1, fun s hs => ?_, fun s hs => ?_⟩
    ·have := hrng s (hST1 s hs).1
     exact ⟨this.1, by omega, (hST1 s hs).2⟩
    ·have := (hSF1 s hs).elim (hrng s) fun h => hrng s (hO.sub s h)
     omega
   refine TW.ret ⟨.inr rfl, _, [.agg [tv0, fv0], .int .i64 0], rfl, by simp [resK, get_put], ?_⟩
   refine ⟨⟨by rw [nx_put]; have := hw0.nx; omega, fun s hs => ?_⟩, .inr ⟨he, x, _, hx, ha, rfl, ?_⟩⟩
   ·rw [get_put, if_neg (by omega), p2 s (by omega) fun h => (by have := hrng s (hO.sub s h); omega), hwo s (by omega) (by omega), hw4.get s (by omega), hwm.get s (by omega), hwk.get s (by omega), hw0.get s hs]
   ·exact ((hpm.put (m := g5.put (h0.nx + 3) (.cells 25 [tv0, fv0])) (by rw [nx_put]; exact Nat.le_refl _) fun s h1 h2 => by rw [get_put, if_neg (by omega)]).low (by omega))
end Go.Ax
set_option maxRecDepth 20000
noncomputable section
namespace Go.Ax
open Go.Proofs
attribute [local irreducible] TW TO CallsT PureC
variable {F : Nat → Option Obj} {gl : Nat → AV} {K : Knob} {S S' : Nat → Prop} {X : Type}
def cpt (l : List Int) : List Int := Lib.compact (sortI l)
def dropT (l : List Int) : Int → Int := fun r => r - ahead l r
def BndI (x : LIns) : Prop := x.args.list.length < 1000000
def BndB (b : LBlock) : Prop := b.ins.list.length < 1000000 ∧ ∀ x ∈ b.ins.list, BndI x
def BndF (f : LFunc) : Prop := f.blocks.list.length < 1000000 ∧ ∀ b ∈ f.blocks.list, BndB b
end Go.Ax
