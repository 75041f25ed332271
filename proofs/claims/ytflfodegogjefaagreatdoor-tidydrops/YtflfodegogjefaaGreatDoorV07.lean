import Derived.Test.YtflfodegogjefaaGreatDoorV06
import Derived.Shelf.SortM.Plain
import Derived.Shelf.SlicesG.CompactI
import Derived.Shelf.SortM.SortNone
set_option linter.unusedSimpArgs false
set_option linter.unusedVariables false
set_option maxRecDepth 20000
noncomputable section
namespace Go.Ax
open Go.Proofs
attribute [local irreducible] TW TO CallsT q0y
variable {F : Nat → Option Obj} {gl : Nat → AV} {K : Knob} {S S' : Nat → Prop}
theorem app_fresh {C : Ctx} {h : Hp} {es q : Nat} {t xt eT : TypeId} {x : AV} {rows : List (List AV)} {n : Nat} (ht : slT C t eT es = true) (hxt : q6P (C.ti xt) = true) (hq : h.get q = some (.cells eT [])) (hqn : q < h.nx) (hl : lenA x = some n) (hn : rows.length = n)
  (hsrc : q1e h es n x = some rows.flatten) (hrows : ∀ c ∈ rows, c.length = es) (hcell : rows.flatten.all q0P = true) (hlen : n ≤ 1000000) :
  ∃ p ex h', q0S C t xt (.sl q 0 0 0 es true) x h = some (.sl p 0 n n es ex, h') ∧ (∀ r, r < h.nx → h'.get r = h.get r) ∧ h.nx ≤ h'.nx ∧ (p = q ∨ h.nx ≤ p) ∧ p < h'.nx ∧ h'.get p = some (.cells eT rows.flatten) := by
 unfold slT at ht
 split at ht
 case h_2 => cases ht
 rename_i e size isAgg zero zeroOk bytes comparable zv y hti hy
 simp only [Bool.and_eq_true, decide_eq_true_eq] at ht
 obtain ⟨rfl, hys, hz, hby⟩ := ht
 have hnl : rows.flatten.length = n * es := by rw [q4L hrows, hn]
 cases hx : C.ti xt with
 | none => rw [hx] at hxt; cases hxt
 | some xi =>
 rw [hx] at hxt
 have hxi : q8I xi.desc = true := hxt
 have hsrc' : q1e h y.size n x = some rows.flatten := by rw [hys]; exact hsrc
 have b1 : Nat.ble y.bytes 1000000 = true := Nat.ble_eq_true_of_le hby
 have b2 : Nat.beq rows.flatten.length (Nat.mul n y.size) = true := by rw [hnl, hys]; exact Nat.beq_refl _
 have b3 : Nat.beq es y.size = true := by rw [hys]; exact Nat.beq_refl _
 have b4 : Nat.ble (Nat.add 0 n) 1000000 = true := Nat.ble_eq_true_of_le (by simp; omega)
 by_cases h0 : n = 0
 ·subst h0
  obtain rfl := List.eq_nil_of_length_eq_zero hn
  refine ⟨q, true, h.put q (.cells e []), ?_, fun r hr => ?_, Nat.le_refl _, .inl rfl, hqn, by rw [get_put, if_pos rfl]; rfl⟩
  ·unfold q0S
   rw [hti, hx, hl]
   try dsimp only
   rw [hy, hxi]
   try dsimp only
   rw [hsrc']
   try dsimp only
   rw [hcell, b1, b2]
   try dsimp only
   rw [hq]
   try dsimp only
   rw [b3]
   simp [q1y, q5O]
  ·rw [get_put]
   by_cases e : q = r
   ·subst e; rw [if_pos rfl, hq]
   ·rw [if_neg e]
 ·have b5 : Nat.ble (Nat.add 0 n) 0 = false := by
   cases hc : Nat.ble (Nat.add 0 n) 0 with
   | false => rfl
   | true => have := Nat.le_of_ble_eq_true hc; simp at this; omega
  refine ⟨h.nx, false, h.new (.cells e rows.flatten), ?_, fun r hr => by rw [get_new, if_neg (by omega)], Nat.le_succ _, .inr (Nat.le_refl _), Nat.lt_succ_self _, by rw [get_new, if_pos rfl]⟩
  ·unfold q0S
   rw [hti, hx, hl]
   try dsimp only
   rw [hy, hxi]
   try dsimp only
   rw [hsrc']
   try dsimp only
   rw [hcell, b1, b2]
   try dsimp only
   rw [hq]
   try dsimp only
   rw [b3, b4, b5, hz]
   simp
theorem z1o {X : Type} {C : Ctx} {es : Nat} {t eT : TypeId} {enc : X → List AV} (ht : slT C t eT es = true) (hxt : q6P (C.ti t) = true) (hes : ∀ a, (enc a).length = es) (hce : ∀ a, (enc a).all q0P = true) (l : List X) (hlen : l.length ≤ 1000000) (h : Hp) :
  ∃ p ex h', q0S C t t (.sl h.nx 0 0 0 es true) (.isl (l.map enc)) (h.new (.cells eT [])) = some (.sl p 0 l.length l.length es ex, h') ∧ Wid h h' ∧ h.nx ≤ p ∧ p < h'.nx ∧ h'.get p = some (.cells eT (l.map enc).flatten) := by
 have hel : ∀ c ∈ l.map enc, c.length = es := fun c hc => by obtain ⟨a, _, rfl⟩ := List.mem_map.1 hc; exact hes a
 have hca : (l.map enc).flatten.all q0P = true := by
  rw [List.all_eq_true]
  intro c hc
  obtain ⟨r, hr, hc2⟩ := List.mem_flatten.1 hc
  obtain ⟨a, _, rfl⟩ := List.mem_map.1 hr
  exact List.all_eq_true.1 (hce a) c hc2
 have hs := src_isl (h := h.new (.cells eT [])) hel
 rw [List.length_map] at hs
 obtain ⟨p, ex, h', q1, q2, q3, q4, q5, q6⟩ := app_fresh (q := h.nx) (h := h.new (.cells eT [])) (x := .isl (l.map enc)) (rows := l.map enc) (n := l.length) ht hxt (by simp [get_new]) (by simp) (by simp [lenA]) (by simp) hs hel hca hlen
 have hn := nx_new (h := h) (o := .cells eT [])
 refine ⟨p, ex, h', q1, ⟨by omega, fun r hr => ?_⟩, by omega, q5, q6⟩
 rw [q2 r (by omega), get_new, if_neg (by omega)]
theorem arr_told {X : Type} {es p : Nat} {eT : TypeId} {ex : Bool} {enc : X → List AV} (hes : ∀ a, (enc a).length = es) {l : List X} {g : Hp} (hg : g.get p = some (.cells eT (l.map enc).flatten)) : ArrS (TR enc) es eT ex (.sl p 0 l.length l.length es ex) (.mk l) g (fun s => s = p) := by
 refine ⟨p, l.map enc, fun _ _ => False, rfl, rfl, hg, by simp, fun c hc => ?_, fun _ _ h => h.elim, fun _ _ _ h => h.elim, fun i a row ha hr => ?_⟩
 ·obtain ⟨a, _, rfl⟩ := List.mem_map.1 hc; exact hes a
 ·rw [List.getElem?_map, ha] at hr; cases hr; rfl
theorem isrc_types : q6P ((Ctx.of Tryz.prog gl K).ti q7e) = true := by simp [q6P, q8I]
theorem isrc_funcs : q6P ((Ctx.of Tryz.prog gl K).ti q7O) = true := by simp [q6P, q8I]
theorem isrc_blocks : q6P ((Ctx.of Tryz.prog gl K).ti q1D) = true := by simp [q6P, q8I]
theorem isrc_inss : q6P ((Ctx.of Tryz.prog gl K).ti q3V) = true := by simp [q6P, q8I]
theorem Clone_ints (hP : POk Tryz.prog F gl K) (xs : Sl Int) (hlen : xs.list.length ≤ 1000000) (h0 : Hp) :
    CallsT Tryz.prog F h0 (fun v g => Wid h0 g ∧ ∃ S, (∀ s, S s → h0.nx ≤ s ∧ s < g.nx) ∧ IntO AnyF v xs.list g S) q0j [xs.av cI] := by
  refine CallsT.body hP q0e q8D rfl rfl ?_
  have hnil : q0Z (Ctx.of Tryz.prog gl K) .eql 26 .nilsl .nilsl = some (.bool true) := by kernel_rfl
  have done : ∀ (l : List Int) p ex h', Wid h0 h' → h0.nx ≤ p → p < h'.nx → h'.get p = some (.cells 3 (l.map cI).flatten) → Wid h0 h' ∧ ∃ S, (∀ s, S s → h0.nx ≤ s ∧ s < h'.nx) ∧ IntO AnyF (.sl p 0 l.length l.length 1 ex) l h' S := fun l p ex h' q2 q3 q4 q5 => by
    have e : ∀ l : List Int, (l.map cI).flatten = l.map (.int .i64) := fun l => by induction l with | nil => rfl | cons a l ih => simp [ih]
    cases l with
    | nil => exact ⟨q2, fun _ => False, nofun, .inl ⟨rfl, .inr ⟨trivial, .inr ⟨_, _, _, _, _, rfl⟩⟩⟩⟩
    | cons a l => exact ⟨q2, fun s => s = p, fun s hs => by omega, .inr ⟨p, ex, trivial, nofun, rfl, rfl, by rw [q5, e]⟩⟩
  cases xs with
  | nil =>
    repeat' first | refine TW.seq ?_ | refine TW.condT hP rfl ?_ | (refine TW.regG hP (by simp [Sl.av, hnil] <;> rfl) ?_; dsimp only [goK]) | simp only [q0a] | (refine TW.ret ⟨.inr rfl, _, _, rfl, rfl, ?_⟩; dsimp only [q0h])
    exact ⟨.refl _, fun _ => False, nofun, .inl ⟨rfl, .inr ⟨trivial, .inl rfl⟩⟩⟩
  | mk l =>
    obtain ⟨p, ex, h', q1, q2, q3, q4, q5⟩ := z1o (enc := cI) (q0Q (gl := gl) (K := K)) q3W (fun _ => rfl) (fun _ => rfl) l hlen h0
    dsimp only [q0u, q0C] at q1
    cases l with
    | cons a l =>
      have hne : q0Z (Ctx.of Tryz.prog gl K) .eql 26 (.isl (cI a :: l.map cI)) .nilsl = some (.bool false) := by kernel_rfl
      rw [List.map_cons] at q1
      dsimp only [cI] at q1 hne
      repeat' first | refine TW.seq ?_ | refine TW.skip ?_ | refine TW.condF hP rfl ?_ | (refine TW.regG hP (by simp [Sl.av, hne, q1] <;> rfl) ?_; dsimp only [goK]) | simp only [q0a] | (refine TW.ret ⟨.inr rfl, _, _, rfl, rfl, ?_⟩; dsimp only [q0h])
      exact done (a :: l) p ex h' q2 q3 q4 q5
    | nil =>
      refine TW.seq (TW.regG hP (by simp <;> rfl) ?_)
      dsimp only [goK, q0a, q0f, q0d]
      refine TW.seq (TW.seq (TW.region ?_))
      refine TO.one hP (v := .isl []) (h1 := h0) rfl rfl rfl rfl rfl ?_
      refine TO.isNil hP rfl rfl rfl (ti := _) (e := 3) rfl rfl fun b => ?_
      refine TO.runsG hP (by simp <;> rfl) ?_
      dsimp only [goK, q0a]
      cases b with
      | true =>
        repeat' first | refine TW.seq ?_ | refine TW.condT hP rfl ?_ | (refine TW.regG hP (by simp <;> rfl) ?_; dsimp only [goK]) | simp only [q0a] | (refine TW.ret ⟨.inr rfl, _, _, rfl, rfl, ?_⟩; dsimp only [q0h])
        exact ⟨.refl _, fun _ => False, nofun, .inl ⟨rfl, .inr ⟨trivial, .inl rfl⟩⟩⟩
      | false =>
        rw [List.map_nil] at q1
        repeat' first | refine TW.seq ?_ | refine TW.skip ?_ | refine TW.condF hP rfl ?_ | (refine TW.regG hP (by simp [Sl.av, q1] <;> rfl) ?_; dsimp only [goK]) | simp only [q0a] | (refine TW.ret ⟨.inr rfl, _, _, rfl, rfl, ?_⟩; dsimp only [q0h])
        exact done [] p ex h' q2 q3 q4 q5
theorem Clone_funcs (hP : POk Tryz.prog F gl K) (xs : Sl LFunc) (hlen : xs.list.length ≤ 1000000) (h0 : Hp) :
    CallsT Tryz.prog F h0 (fun v g => Wid h0 g ∧ ∃ S, (∀ s, S s → h0.nx ≤ s ∧ s < g.nx) ∧ SlO AnyF (TR LFunc.cells) 2 q0R v xs.list g S) q0n [xs.av LFunc.cells] := by
  refine CallsT.body hP q0e q5n rfl rfl ?_
  have hnil : q0Z (Ctx.of Tryz.prog gl K) .eql 23 .nilsl .nilsl = some (.bool true) := by kernel_rfl
  have done : ∀ (l : List LFunc) p ex h', Wid h0 h' → h0.nx ≤ p → p < h'.nx → h'.get p = some (.cells 43 (l.map LFunc.cells).flatten) → Wid h0 h' ∧ ∃ S, (∀ s, S s → h0.nx ≤ s ∧ s < h'.nx) ∧ SlO AnyF (TR LFunc.cells) 2 q0R (.sl p 0 l.length l.length 2 ex) l h' S := fun l p ex h' q2 q3 q4 q5 => by
    cases l with
    | nil => exact ⟨q2, fun _ => False, nofun, .inl ⟨rfl, .inr ⟨trivial, .inr ⟨_, _, _, _, _, rfl⟩⟩⟩⟩
    | cons a l => exact ⟨q2, fun s => s = p, fun s hs => by omega, .inr ⟨ex, trivial, nofun, arr_told (enc := LFunc.cells) (es := 2) (fun _ => rfl) q5⟩⟩
  cases xs with
  | nil =>
    repeat' first | refine TW.seq ?_ | refine TW.condT hP rfl ?_ | (refine TW.regG hP (by simp [(show (Sl.nil : Sl LFunc).av LFunc.cells = .nilsl from rfl), hnil] <;> rfl) ?_; dsimp only [goK]) | simp only [q0a] | (refine TW.ret ⟨.inr rfl, _, _, rfl, rfl, ?_⟩; dsimp only [q0h])
    exact ⟨.refl _, fun _ => False, nofun, .inl ⟨rfl, .inr ⟨trivial, .inl rfl⟩⟩⟩
  | mk l =>
    obtain ⟨p, ex, h', q1, q2, q3, q4, q5⟩ := z1o (enc := LFunc.cells) (slt_funcs (gl := gl) (K := K)) isrc_funcs (fun _ => rfl) (fun a => by simp) l hlen h0
    dsimp only [q7O, q0R] at q1
    cases l with
    | cons a l =>
      have hne : q0Z (Ctx.of Tryz.prog gl K) .eql 23 (.isl (LFunc.cells a :: l.map LFunc.cells)) .nilsl = some (.bool false) := by kernel_rfl
      rw [List.map_cons] at q1
      dsimp only [LFunc.cells, LEnd.cells] at q1 hne
      repeat' first | refine TW.seq ?_ | refine TW.skip ?_ | refine TW.condF hP rfl ?_ | (refine TW.regG hP (by simp [(show (Sl.mk (a :: l)).av LFunc.cells = .isl (LFunc.cells a :: l.map LFunc.cells) from rfl), hne, q1] <;> rfl) ?_; dsimp only [goK]) | simp only [q0a] | (refine TW.ret ⟨.inr rfl, _, _, rfl, rfl, ?_⟩; dsimp only [q0h])
      exact done (a :: l) p ex h' q2 q3 q4 q5
    | nil =>
      refine TW.seq (TW.regG hP (by simp <;> rfl) ?_)
      dsimp only [goK, q0a, q0f, q0d]
      refine TW.seq (TW.seq (TW.region ?_))
      refine TO.one hP (v := .isl []) (h1 := h0) rfl rfl rfl rfl rfl ?_
      refine TO.isNil hP rfl rfl rfl (ti := _) (e := 43) rfl rfl fun b => ?_
      refine TO.runsG hP (by simp <;> rfl) ?_
      dsimp only [goK, q0a]
      cases b with
      | true =>
        repeat' first | refine TW.seq ?_ | refine TW.condT hP rfl ?_ | (refine TW.regG hP (by simp <;> rfl) ?_; dsimp only [goK]) | simp only [q0a] | (refine TW.ret ⟨.inr rfl, _, _, rfl, rfl, ?_⟩; dsimp only [q0h])
        exact ⟨.refl _, fun _ => False, nofun, .inl ⟨rfl, .inr ⟨trivial, .inl rfl⟩⟩⟩
      | false =>
        rw [List.map_nil] at q1
        repeat' first | refine TW.seq ?_ | refine TW.skip ?_ | refine TW.condF hP rfl ?_ | (refine TW.regG hP (by simp [(show (Sl.mk ([] : List LFunc)).av LFunc.cells = .isl [] from rfl), q1] <;> rfl) ?_; dsimp only [goK]) | simp only [q0a] | (refine TW.ret ⟨.inr rfl, _, _, rfl, rfl, ?_⟩; dsimp only [q0h])
        exact done [] p ex h' q2 q3 q4 q5
theorem Clone_blocks (hP : POk Tryz.prog F gl K) (xs : Sl LBlock) (hlen : xs.list.length ≤ 1000000) (h0 : Hp) :
    CallsT Tryz.prog F h0 (fun v g => Wid h0 g ∧ ∃ S, (∀ s, S s → h0.nx ≤ s ∧ s < g.nx) ∧ SlO AnyF (TR LBlock.cells) 5 q0s v xs.list g S) q0o [xs.av LBlock.cells] := by
  refine CallsT.body hP q0e q4C rfl rfl ?_
  have hnil : q0Z (Ctx.of Tryz.prog gl K) .eql 41 .nilsl .nilsl = some (.bool true) := by kernel_rfl
  have done : ∀ (l : List LBlock) p ex h', Wid h0 h' → h0.nx ≤ p → p < h'.nx → h'.get p = some (.cells 49 (l.map LBlock.cells).flatten) → Wid h0 h' ∧ ∃ S, (∀ s, S s → h0.nx ≤ s ∧ s < h'.nx) ∧ SlO AnyF (TR LBlock.cells) 5 q0s (.sl p 0 l.length l.length 5 ex) l h' S := fun l p ex h' q2 q3 q4 q5 => by
    cases l with
    | nil => exact ⟨q2, fun _ => False, nofun, .inl ⟨rfl, .inr ⟨trivial, .inr ⟨_, _, _, _, _, rfl⟩⟩⟩⟩
    | cons a l => exact ⟨q2, fun s => s = p, fun s hs => by omega, .inr ⟨ex, trivial, nofun, arr_told (enc := LBlock.cells) (es := 5) (fun _ => rfl) q5⟩⟩
  cases xs with
  | nil =>
    repeat' first | refine TW.seq ?_ | refine TW.condT hP rfl ?_ | (refine TW.regG hP (by simp [(show (Sl.nil : Sl LBlock).av LBlock.cells = .nilsl from rfl), hnil] <;> rfl) ?_; dsimp only [goK]) | simp only [q0a] | (refine TW.ret ⟨.inr rfl, _, _, rfl, rfl, ?_⟩; dsimp only [q0h])
    exact ⟨.refl _, fun _ => False, nofun, .inl ⟨rfl, .inr ⟨trivial, .inl rfl⟩⟩⟩
  | mk l =>
    obtain ⟨p, ex, h', q1, q2, q3, q4, q5⟩ := z1o (enc := LBlock.cells) (q7t (gl := gl) (K := K)) isrc_blocks (fun _ => rfl) (fun a => by simp) l hlen h0
    dsimp only [q1D, q0s] at q1
    cases l with
    | cons a l =>
      have hne : q0Z (Ctx.of Tryz.prog gl K) .eql 41 (.isl (LBlock.cells a :: l.map LBlock.cells)) .nilsl = some (.bool false) := by kernel_rfl
      rw [List.map_cons] at q1
      dsimp only [LBlock.cells, LEnd.cells] at q1 hne
      repeat' first | refine TW.seq ?_ | refine TW.skip ?_ | refine TW.condF hP rfl ?_ | (refine TW.regG hP (by simp [(show (Sl.mk (a :: l)).av LBlock.cells = .isl (LBlock.cells a :: l.map LBlock.cells) from rfl), hne, q1] <;> rfl) ?_; dsimp only [goK]) | simp only [q0a] | (refine TW.ret ⟨.inr rfl, _, _, rfl, rfl, ?_⟩; dsimp only [q0h])
      exact done (a :: l) p ex h' q2 q3 q4 q5
    | nil =>
      refine TW.seq (TW.regG hP (by simp <;> rfl) ?_)
      dsimp only [goK, q0a, q0f, q0d]
      refine TW.seq (TW.seq (TW.region ?_))
      refine TO.one hP (v := .isl []) (h1 := h0) rfl rfl rfl rfl rfl ?_
      refine TO.isNil hP rfl rfl rfl (ti := _) (e := 49) rfl rfl fun b => ?_
      refine TO.runsG hP (by simp <;> rfl) ?_
      dsimp only [goK, q0a]
      cases b with
      | true =>
        repeat' first | refine TW.seq ?_ | refine TW.condT hP rfl ?_ | (refine TW.regG hP (by simp <;> rfl) ?_; dsimp only [goK]) | simp only [q0a] | (refine TW.ret ⟨.inr rfl, _, _, rfl, rfl, ?_⟩; dsimp only [q0h])
        exact ⟨.refl _, fun _ => False, nofun, .inl ⟨rfl, .inr ⟨trivial, .inl rfl⟩⟩⟩
      | false =>
        rw [List.map_nil] at q1
        repeat' first | refine TW.seq ?_ | refine TW.skip ?_ | refine TW.condF hP rfl ?_ | (refine TW.regG hP (by simp [(show (Sl.mk ([] : List LBlock)).av LBlock.cells = .isl [] from rfl), q1] <;> rfl) ?_; dsimp only [goK]) | simp only [q0a] | (refine TW.ret ⟨.inr rfl, _, _, rfl, rfl, ?_⟩; dsimp only [q0h])
        exact done [] p ex h' q2 q3 q4 q5
theorem Clone_inss (hP : POk Tryz.prog F gl K) (xs : Sl LIns) (hlen : xs.list.length ≤ 1000000) (h0 : Hp) :
    CallsT Tryz.prog F h0 (fun v g => Wid h0 g ∧ ∃ S, (∀ s, S s → h0.nx ≤ s ∧ s < g.nx) ∧ SlO AnyF (TR LIns.cells) 7 q0M v xs.list g S) q1J [xs.av LIns.cells] := by
  refine CallsT.body hP q0e q5J rfl rfl ?_
  have hnil : q0Z (Ctx.of Tryz.prog gl K) .eql 45 .nilsl .nilsl = some (.bool true) := by kernel_rfl
  have done : ∀ (l : List LIns) p ex h', Wid h0 h' → h0.nx ≤ p → p < h'.nx → h'.get p = some (.cells 52 (l.map LIns.cells).flatten) → Wid h0 h' ∧ ∃ S, (∀ s, S s → h0.nx ≤ s ∧ s < h'.nx) ∧ SlO AnyF (TR LIns.cells) 7 q0M (.sl p 0 l.length l.length 7 ex) l h' S := fun l p ex h' q2 q3 q4 q5 => by
    cases l with
    | nil => exact ⟨q2, fun _ => False, nofun, .inl ⟨rfl, .inr ⟨trivial, .inr ⟨_, _, _, _, _, rfl⟩⟩⟩⟩
    | cons a l => exact ⟨q2, fun s => s = p, fun s hs => by omega, .inr ⟨ex, trivial, nofun, arr_told (enc := LIns.cells) (es := 7) (fun _ => rfl) q5⟩⟩
  cases xs with
  | nil =>
    repeat' first | refine TW.seq ?_ | refine TW.condT hP rfl ?_ | (refine TW.regG hP (by simp [(show (Sl.nil : Sl LIns).av LIns.cells = .nilsl from rfl), hnil] <;> rfl) ?_; dsimp only [goK]) | simp only [q0a] | (refine TW.ret ⟨.inr rfl, _, _, rfl, rfl, ?_⟩; dsimp only [q0h])
    exact ⟨.refl _, fun _ => False, nofun, .inl ⟨rfl, .inr ⟨trivial, .inl rfl⟩⟩⟩
  | mk l =>
    obtain ⟨p, ex, h', q1, q2, q3, q4, q5⟩ := z1o (enc := LIns.cells) (z1j (gl := gl) (K := K)) isrc_inss (fun _ => rfl) (fun a => by simp) l hlen h0
    dsimp only [q3V, q0M] at q1
    cases l with
    | cons a l =>
      have hne : q0Z (Ctx.of Tryz.prog gl K) .eql 45 (.isl (LIns.cells a :: l.map LIns.cells)) .nilsl = some (.bool false) := by kernel_rfl
      rw [List.map_cons] at q1
      dsimp only [LIns.cells, LEnd.cells] at q1 hne
      repeat' first | refine TW.seq ?_ | refine TW.skip ?_ | refine TW.condF hP rfl ?_ | (refine TW.regG hP (by simp [(show (Sl.mk (a :: l)).av LIns.cells = .isl (LIns.cells a :: l.map LIns.cells) from rfl), hne, q1] <;> rfl) ?_; dsimp only [goK]) | simp only [q0a] | (refine TW.ret ⟨.inr rfl, _, _, rfl, rfl, ?_⟩; dsimp only [q0h])
      exact done (a :: l) p ex h' q2 q3 q4 q5
    | nil =>
      refine TW.seq (TW.regG hP (by simp <;> rfl) ?_)
      dsimp only [goK, q0a, q0f, q0d]
      refine TW.seq (TW.seq (TW.region ?_))
      refine TO.one hP (v := .isl []) (h1 := h0) rfl rfl rfl rfl rfl ?_
      refine TO.isNil hP rfl rfl rfl (ti := _) (e := 52) rfl rfl fun b => ?_
      refine TO.runsG hP (by simp <;> rfl) ?_
      dsimp only [goK, q0a]
      cases b with
      | true =>
        repeat' first | refine TW.seq ?_ | refine TW.condT hP rfl ?_ | (refine TW.regG hP (by simp <;> rfl) ?_; dsimp only [goK]) | simp only [q0a] | (refine TW.ret ⟨.inr rfl, _, _, rfl, rfl, ?_⟩; dsimp only [q0h])
        exact ⟨.refl _, fun _ => False, nofun, .inl ⟨rfl, .inr ⟨trivial, .inl rfl⟩⟩⟩
      | false =>
        rw [List.map_nil] at q1
        repeat' first | refine TW.seq ?_ | refine TW.skip ?_ | refine TW.condF hP rfl ?_ | (refine TW.regG hP (by simp [(show (Sl.mk ([] : List LIns)).av LIns.cells = .isl [] from rfl), q1] <;> rfl) ?_; dsimp only [goK]) | simp only [q0a] | (refine TW.ret ⟨.inr rfl, _, _, rfl, rfl, ?_⟩; dsimp only [q0h])
        exact done [] p ex h' q2 q3 q4 q5
theorem Clone_types (hP : POk Tryz.prog F gl K) (xs : Sl LType) (hlen : xs.list.length ≤ 1000000) (h0 : Hp) :
    CallsT Tryz.prog F h0 (fun v g => Wid h0 g ∧ ∃ S, (∀ s, S s → h0.nx ≤ s ∧ s < g.nx) ∧ SlO AnyF (TR LType.cells) 4 q1W v xs.list g S) q1C [xs.av LType.cells] := by
  refine CallsT.body hP q0e q5m rfl rfl ?_
  have hnil : q0Z (Ctx.of Tryz.prog gl K) .eql 22 .nilsl .nilsl = some (.bool true) := by kernel_rfl
  have done : ∀ (l : List LType) p ex h', Wid h0 h' → h0.nx ≤ p → p < h'.nx → h'.get p = some (.cells 97 (l.map LType.cells).flatten) → Wid h0 h' ∧ ∃ S, (∀ s, S s → h0.nx ≤ s ∧ s < h'.nx) ∧ SlO AnyF (TR LType.cells) 4 q1W (.sl p 0 l.length l.length 4 ex) l h' S := fun l p ex h' q2 q3 q4 q5 => by
    cases l with
    | nil => exact ⟨q2, fun _ => False, nofun, .inl ⟨rfl, .inr ⟨trivial, .inr ⟨_, _, _, _, _, rfl⟩⟩⟩⟩
    | cons a l => exact ⟨q2, fun s => s = p, fun s hs => by omega, .inr ⟨ex, trivial, nofun, arr_told (enc := LType.cells) (es := 4) (fun _ => rfl) q5⟩⟩
  cases xs with
  | nil =>
    repeat' first | refine TW.seq ?_ | refine TW.condT hP rfl ?_ | (refine TW.regG hP (by simp [(show (Sl.nil : Sl LType).av LType.cells = .nilsl from rfl), hnil] <;> rfl) ?_; dsimp only [goK]) | simp only [q0a] | (refine TW.ret ⟨.inr rfl, _, _, rfl, rfl, ?_⟩; dsimp only [q0h])
    exact ⟨.refl _, fun _ => False, nofun, .inl ⟨rfl, .inr ⟨trivial, .inl rfl⟩⟩⟩
  | mk l =>
    obtain ⟨p, ex, h', q1, q2, q3, q4, q5⟩ := z1o (enc := LType.cells) (slt_types (gl := gl) (K := K)) isrc_types (fun _ => rfl) (fun a => by simp) l hlen h0
    dsimp only [q7e, q1W] at q1
    cases l with
    | cons a l =>
      have hne : q0Z (Ctx.of Tryz.prog gl K) .eql 22 (.isl (LType.cells a :: l.map LType.cells)) .nilsl = some (.bool false) := by kernel_rfl
      rw [List.map_cons] at q1
      dsimp only [LType.cells, LEnd.cells] at q1 hne
      repeat' first | refine TW.seq ?_ | refine TW.skip ?_ | refine TW.condF hP rfl ?_ | (refine TW.regG hP (by simp [(show (Sl.mk (a :: l)).av LType.cells = .isl (LType.cells a :: l.map LType.cells) from rfl), hne, q1] <;> rfl) ?_; dsimp only [goK]) | simp only [q0a] | (refine TW.ret ⟨.inr rfl, _, _, rfl, rfl, ?_⟩; dsimp only [q0h])
      exact done (a :: l) p ex h' q2 q3 q4 q5
    | nil =>
      refine TW.seq (TW.regG hP (by simp <;> rfl) ?_)
      dsimp only [goK, q0a, q0f, q0d]
      refine TW.seq (TW.seq (TW.region ?_))
      refine TO.one hP (v := .isl []) (h1 := h0) rfl rfl rfl rfl rfl ?_
      refine TO.isNil hP rfl rfl rfl (ti := _) (e := 97) rfl rfl fun b => ?_
      refine TO.runsG hP (by simp <;> rfl) ?_
      dsimp only [goK, q0a]
      cases b with
      | true =>
        repeat' first | refine TW.seq ?_ | refine TW.condT hP rfl ?_ | (refine TW.regG hP (by simp <;> rfl) ?_; dsimp only [goK]) | simp only [q0a] | (refine TW.ret ⟨.inr rfl, _, _, rfl, rfl, ?_⟩; dsimp only [q0h])
        exact ⟨.refl _, fun _ => False, nofun, .inl ⟨rfl, .inr ⟨trivial, .inl rfl⟩⟩⟩
      | false =>
        rw [List.map_nil] at q1
        repeat' first | refine TW.seq ?_ | refine TW.skip ?_ | refine TW.condF hP rfl ?_ | (refine TW.regG hP (by simp [(show (Sl.mk ([] : List LType)).av LType.cells = .isl [] from rfl), q1] <;> rfl) ?_; dsimp only [goK]) | simp only [q0a] | (refine TW.ret ⟨.inr rfl, _, _, rfl, rfl, ?_⟩; dsimp only [q0h])
        exact done [] p ex h' q2 q3 q4 q5
end Go.Ax
set_option maxRecDepth 20000
noncomputable section
namespace Go.Ax
open Go.Proofs
attribute [local irreducible] TW TO CallsT q0y
variable {F : Nat → Option Obj} {gl : Nat → AV} {K : Knob} {S S' : Nat → Prop} {X : Type}
def mixL (i : Nat) (l : List X) : List (Bool × X) := (l.take i).map (fun a => (true, a)) ++ (l.drop i).map (fun a => (false, a))
def mixR (ρ τ : X → List AV → Asr) (q : Bool × X) : List AV → Asr := bif q.1 then ρ q.2 else τ q.2
theorem mixR.locl {ρ τ : X → List AV → Asr} (h1 : ∀ a row, Locl (ρ a row)) (h2 : ∀ a row, Locl (τ a row)) : ∀ q row, Locl (mixR ρ τ q row)
 | (true, a), row => h1 a row
 | (false, a), row => h2 a row
theorem mixL_len {i : Nat} {l : List X} : (mixL i l).length = l.length := by simp [mixL]; omega
theorem mixL_get {i : Nat} {l : List X} {a : X} (h : l[i]? = some a) : (mixL i l)[i]? = some (false, a) := by
 obtain ⟨h1, rfl⟩ := List.getElem?_eq_some_iff.1 h
 unfold mixL
 rw [List.getElem?_append_right (by simp; omega)]
 simp [Nat.min_eq_left (Nat.le_of_lt h1)]
theorem mixL_set {i : Nat} {l : List X} {a : X} (h : l[i]? = some a) : (mixL i l).set i (true, a) = mixL (i + 1) l := by
 obtain ⟨h1, rfl⟩ := List.getElem?_eq_some_iff.1 h
 unfold mixL
 have hl : ((l.take i).map fun a => (true, a)).length = i := by simp; omega
 rw [List.set_append_right _ _ (by omega), hl, Nat.sub_self, List.drop_eq_getElem_cons h1, List.take_succ_eq_append_getElem h1, List.map_append, List.append_assoc]
 rfl
theorem mixL_zero {l : List X} : mixL 0 l = l.map fun a => (false, a) := by simp [mixL]
theorem mixL_all {i : Nat} {l : List X} (h : l.length ≤ i) : mixL i l = l.map fun a => (true, a) := by
 unfold mixL
 rw [List.take_of_length_le h, List.drop_of_length_le h]; simp
theorem SlO.conv {Y : Type} {fl : Bool → Prop} {ρ : X → List AV → Asr} {τ : Y → List AV → Asr} {es : Nat} {eT : TypeId} {v : AV} {l : List X} {f : X → Y} {h : Hp} {S : Nat → Prop} (hf : ∀ a ∈ l, ∀ row h S, ρ a row h S → τ (f a) row h S) (H : SlO fl ρ es eT v l h S) : SlO fl τ es eT v (l.map f) h S := by
 rcases H with ⟨rfl, H⟩ | ⟨x, h0, hn, r, rows, Ss, h1, h2, h3, h4, h5, h6, h7, h8⟩
 ·exact .inl ⟨rfl, H⟩
 ·refine .inr ⟨x, h0, by simpa using hn, r, rows, Ss, by rw [h1, List.length_map], h2, h3, by rw [h4, List.length_map], h5, h6, h7, fun i a row ha hr => ?_⟩
  rw [List.getElem?_map] at ha
  cases hb : l[i]? with
  | none => rw [hb] at ha; cases ha
  | some b => rw [hb] at ha; cases ha; exact hf b (List.mem_of_getElem? hb) row _ _ (h8 i b row hb hr)
theorem SlO.mix0 {fl : Bool → Prop} {ρ τ : X → List AV → Asr} {es : Nat} {eT : TypeId} {v : AV} {l : List X} {h : Hp} (H : SlO fl τ es eT v l h S) : SlO fl (mixR ρ τ) es eT v (mixL 0 l) h S := by
 rw [mixL_zero]
 exact H.conv fun _ _ _ _ _ h => h
theorem SlO.mixAll {fl : Bool → Prop} {ρ τ : X → List AV → Asr} {es i : Nat} {eT : TypeId} {v : AV} {l : List X} {h : Hp} (hi : l.length ≤ i) (H : SlO fl (mixR ρ τ) es eT v (mixL i l) h S) : SlO fl ρ es eT v l h S := by
 rw [mixL_all hi] at H
 have := H.conv (f := Prod.snd) (τ := ρ) fun q hq row h S hr => by
  obtain ⟨a, _, rfl⟩ := List.mem_map.1 hq
  exact hr
 rwa [List.map_map, show (Prod.snd ∘ fun a : X => (true, a)) = id from rfl, List.map_id] at this
theorem SlO.at {ρ : X → List AV → Asr} {es i : Nat} {eT : TypeId} {v : AV} {l : List X} {a : X} {h : Hp} (hρ : ∀ a row, Locl (ρ a row)) (H : SlO AnyF ρ es eT v l h S) (ha : l[i]? = some a) :
  ∃ (x : Bool) (r : Nat) (rows : List (List AV)) (row : List AV) (Si : Nat → Prop), v = .sl r 0 l.length l.length es x ∧ S r ∧ h.get r = some (.cells eT rows.flatten) ∧ q3l es rows ∧ rows[i]? = some row ∧ row.length = es ∧ (∀ s, Si s → S s ∧ s ≠ r) ∧ ρ a row h Si ∧
   ∀ (g : Hp) (T : Nat → Prop) (a' : X) (row' : List AV), row'.length = es → g.get r = some (.cells eT (rows.set i row').flatten) → (∀ s, S s → ¬ Si s → s ≠ r → g.get s = h.get s) → (∀ s, T s → Si s ∨ ¬ S s) → ρ a' row' g T → ∀ S', (∀ s, S s → S' s) → (∀ s, T s → S' s) → SlO AnyF ρ es eT v (l.set i a') g S' := by
 rcases H with ⟨rfl, H⟩ | ⟨x, h0, hn, H⟩
 ·simp at ha
 ·obtain ⟨r, rows, row, Si, q1, q2, q3, q4, q5, q6, q7, q8, q9⟩ := ArrS.at (xs := .mk l) hρ H ha
  refine ⟨x, r, rows, row, Si, q1, q2, q3, q4, q5, q6, q7, q8, fun g T a' row' e1 e2 e3 e4 e5 S' e6 e7 => .inr ⟨x, trivial, ?_, q9 g T a' row' e1 e2 e3 e4 e5 S' e6 e7⟩⟩
  intro e
  exact hn (List.eq_nil_of_length_eq_zero (by have := congrArg List.length e; simpa using this))
def TypO (fl : Bool → Prop) (x : LType) (row : List AV) (h : Hp) (S : Nat → Prop) : Prop := ∃ v, row = [.int .u8 x.kind, .int .i64 x.elem, .int .i64 x.many, v] ∧ IntO fl v x.parts.list h S
theorem TypO.locl {fl : Bool → Prop} (x : LType) (row : List AV) : Locl (TypO fl x row) := fun h g S S' ⟨v, h1, h2⟩ hS hg => ⟨v, h1, IntO.locl _ _ _ _ h2 hS hg⟩
set_option maxHeartbeats 2000000 in
theorem types_Twin_mem (hP : POk Tryz.prog F gl K) (t : Sl LType) (hlen : t.list.length < 1000000) (hp : ∀ x ∈ t.list, x.parts.list.length < 900000) (h0 : Hp) :
  CallsT Tryz.prog F h0 (fun v g => Wid h0 g ∧ ∃ S, (∀ s, S s → h0.nx ≤ s ∧ s < g.nx) ∧ SlO AnyF (TypO AnyF) 4 q1W v t.list g S) q2v [t.av LType.cells] := by
 refine CallsT.body hP q0e E_types_Twin rfl rfl ?_
 repeat' first | refine TW.seq ?_ | (refine TW.regG hP (by simp <;> rfl) ?_; dsimp only [goK])
 refine TO.ccall hP q5k (Clone_types hP t (by omega) _) (by simp) rfl rfl rfl rfl (fun v g0 ⟨hw0, S0, hS0, hown0⟩ => ?_)
 refine TO.runsG hP (by simp <;> rfl) ?_
 try dsimp only [goK]
 obtain ⟨z1, z2, z3, z4⟩ := hown0.len
 have hlv := fun h => q3F (C := Ctx.of Tryz.prog gl K) (t := q7e) (h := h) z1 z2
 dsimp only [q7e] at hlv
 repeat' first | refine TW.seq ?_ | refine TW.block ?_ | (refine TW.regG hP (by simp [hlv] <;> rfl) ?_; dsimp only [goK])
 refine TW.loopL (fun i : Nat => [(3, v), (8, v), (9, .int .i64 t.list.length), (10, .int .i64 i)]) (fun i g => i ≤ t.list.length ∧ Wid h0 g ∧ ∃ S, (∀ s, S s → h0.nx ≤ s ∧ s < g.nx) ∧ SlO AnyF (mixR (TypO AnyF) (TR LType.cells)) 4 q1W v (mixL i t.list) g S) (fun i => t.list.length - i) (0) ?_ ?_ ?_
 focus (repeat' first | exact q0c | refine q0b (by simp) ?_)
 ·exact ⟨Nat.zero_le _, hw0, S0, hS0, hown0.mix0⟩
 rintro i g ⟨hi, hw, S, hS, hown⟩
 repeat' first | refine TW.seq ?_ | (refine TW.regG hP (by simp <;> rfl) ?_; dsimp only [goK])
 refine TW.cond hP rfl (fun hc => TW.skip ?_) (fun hc => TW.exit ?_)
 ·simp at hc
  obtain ⟨x, hx⟩ := q0g hc
  obtain ⟨fx, r, rows, row, Si, hv, hrS, hgr, hrows, hri, hrl, hSi, hrow, wand⟩ := hown.at (mixR.locl TypO.locl TR.locl) (mixL_get hx)
  have hrow : row = x.cells := hrow
  subst hrow
  rw [mixL_len] at hv
  subst hv
  obtain ⟨hr1, hrn⟩ := hS r hrS
  dsimp only [q0a]
  refine TW.seq ?_
  refine TW.block ?_
  have hL := fun t => q2i (C := Ctx.of Tryz.prog gl K) (t := t) hgr hrows hri
  dsimp only [LType.cells] at hL hri
  refine TW.seq (TW.regG hP (by simp [hL, q0L, q1h, hc] <;> rfl) ?_)
  dsimp only [goK, q0a, q0f, q0d]
  refine TW.gen (fun m => m.get g.nx = some (.cells q1W x.cells) ∧ Wid g m ∧ g.nx < m.nx) ⟨by simp, ((Wid.refl g).new _).put (by simp) _, by simp⟩ fun m hm => ?_
  obtain ⟨hm, hwm, hnm⟩ := hm
  dsimp only [q1W, LType.cells] at hm
  repeat' first | (refine TW.regG hP (by simp [hm] <;> rfl) ?_; dsimp only [goK])
  refine TO.ccall hP q8y (Clone_ints hP x.parts (by have := hp x (List.mem_of_getElem? hx); omega) _) (by simp) rfl rfl rfl rfl (fun u m1 ⟨hw1, S1, hS1, hi1⟩ => ?_)
  have hw2 := hwm.trans hw1
  have hm1 : m1.get r = _ := (hw2.get r hrn).trans hgr
  obtain ⟨_, _, d1, d2⟩ := hi1.len
  have hSt := q6p (C := Ctx.of Tryz.prog gl K) (v := u) (o := 3) hm1 hrows hri d2 d1 (by omega)
  dsimp only [q1W] at hSt
  refine TO.runsG hP (by simp [hSt, -storeAt, sz1, hc] <;> rfl) ?_
  try dsimp only [goK]
  repeat' first | (refine TW.regG hP (by simp <;> rfl) ?_; dsimp only [goK]) | simp only [q0d]
  have hnx2 := hw2.nx
  have hnxm := hwm.nx
  have hnx0 := hw.nx
  refine ⟨i + 1, by omega, trivial, ?_, by omega, ?_, (fun s => S s ∨ S1 s), ?_, ?_⟩
  ·repeat' first | exact q0c | refine q0b (by simp [w64s (show i < 9000000000000000000 by omega)]) ?_
  ·refine ⟨by rw [nx_put]; omega, fun s hs => ?_⟩
   rw [get_put, if_neg (by omega), hw2.get s (by omega), hw.get s hs]
  ·rintro s (hs | hs)
   ·have := hS s hs; rw [nx_put]; omega
   ·have := hS1 s hs; rw [nx_put]; omega
  ·rw [← mixL_set hx]
   refine wand _ S1 (true, x) [.int .u8 x.kind, .int .i64 x.elem, .int .i64 x.many, u] rfl (by rw [get_put, if_pos rfl]) ?_ ?_ ?_ _ (fun s hs => .inl hs) (fun s hs => .inr hs)
   ·intro s h1 h2 h3
    rw [get_put, if_neg (Ne.symm h3), hw2.get s (hS s h1).2]
   ·intro s hs
    exact .inr fun h => by have := hS s h; have := hS1 s hs; omega
   ·refine ⟨u, rfl, IntO.locl _ _ _ _ hi1 (fun _ h => h) fun s hs => ?_⟩
    have := hS1 s hs
    rw [get_put, if_neg (by omega)]
 ·simp at hc
  dsimp only [q0a]
  repeat' first | refine TW.seq ?_ | (refine TW.regG hP (by simp <;> rfl) ?_; dsimp only [goK]) | simp only [q0a] | (refine TW.ret ⟨.inr rfl, _, _, rfl, rfl, ?_⟩; dsimp only [q0h])
  exact ⟨hw, S, hS, hown.mixAll (by simpa using hc)⟩
theorem TypO.rig (x : LType) : RigL (TypO OffF x) (TypO AnyF x) := by
 rintro row1 h1 S1 row2 h2 S2 ⟨u, rfl, a2⟩ ⟨u', rfl, b2⟩
 obtain ⟨σ, U, H, hr⟩ := IntO.rig x.parts.list u h1 S1 u' h2 S2 a2 b2
 exact ⟨σ, U, H, .cons (.bare rfl) (.cons (.bare rfl) (.cons (.bare rfl) (.cons hr .nil)))⟩
theorem TypO.ex (x : LType) : ExL (TypO OffF x) := by
 intro h hw
 obtain ⟨u, h1, S, p1, p2, p3, p4⟩ := IntO.ex x.parts.list h hw
 exact ⟨_, h1, S, ⟨u, rfl, p1⟩, p2, p3, p4⟩
theorem TypO.len {fl : Bool → Prop} (x : LType) (row : List AV) (h : Hp) (S : Nat → Prop) (H : TypO fl x row h S) : row.length = 4 := by obtain ⟨_, rfl, _⟩ := H; rfl
theorem TR.len {enc : X → List AV} {es : Nat} (he : ∀ a, (enc a).length = es) (x : X) (row : List AV) (h : Hp) (S : Nat → Prop) (H : TR enc x row h S) : row.length = es := by have H : row = enc x := H; rw [H]; exact he x
theorem wf_up {g : Hp} (hw : ∀ r, g.nx ≤ r → g.get r = none) : ∀ r, g.up.nx ≤ r → g.up.get r = none := fun r hr => by
 rw [q2K]
 rw [q2J] at hr
 exact hw r hr
theorem q1G {g h : Hp} (hw : Wid g.up h) : Wid g h := ⟨by have := hw.nx; rwa [q2J] at this, fun r hr => by have := hw.get r (by rw [q2J]; exact hr); rwa [q2K] at this⟩
theorem tell_types (hP : POk Tryz.prog F gl K) (t : Sl LType) (hlen : t.list.length < 1000000) (hp : ∀ x ∈ t.list, x.parts.list.length < 900000) (h : Hp) (hlo : h.lo = h.nx) (hw : ∀ r, h.nx ≤ r → h.get r = none) :
  ∃ v h1 S, SlO OffF (TypO OffF) 4 q1W v t.list h1 S ∧ Wid h h1 ∧ (∀ r, h1.nx ≤ r → h1.get r = none) ∧ (∀ s, S s → h.nx ≤ s ∧ s < h1.nx) ∧ HpLe h h1 ∧ Calling Tryz.prog F h h1 v q2v [t.av LType.cells] ∧ h1.lo = h.nx ∧ h.nx < h1.nx :=
 q7Q (B := fun v => SlO AnyF (TypO AnyF) 4 q1W v t.list) ((types_Twin_mem hP t hlen hp .e).mono fun v g ⟨_, S, _, H⟩ => ⟨S, H⟩) (by simp [q1v, q2F q7d]) (SlO.rig fun a _ => TypO.rig a) (SlO.ex TypO.locl TypO.len fun a _ => TypO.ex a) (fun v => SlO.locl TypO.locl) h hlo hw
theorem tell_funcs (hP : POk Tryz.prog F gl K) (t : Sl LFunc) (hlen : t.list.length ≤ 1000000) (h : Hp) (hlo : h.lo = h.nx) (hw : ∀ r, h.nx ≤ r → h.get r = none) :
  ∃ v h1 S, SlO OffF (TR LFunc.cells) 2 q0R v t.list h1 S ∧ Wid h h1 ∧ (∀ r, h1.nx ≤ r → h1.get r = none) ∧ (∀ s, S s → h.nx ≤ s ∧ s < h1.nx) ∧ HpLe h h1 ∧ Calling Tryz.prog F h h1 v q0n [t.av LFunc.cells] ∧ h1.lo = h.nx ∧ h.nx < h1.nx :=
 q7Q (B := fun v => SlO AnyF (TR LFunc.cells) 2 q0R v t.list) ((Clone_funcs hP t hlen .e).mono fun v g ⟨_, S, _, H⟩ => ⟨S, H⟩) (by simp [q1v, q2F z0k]) (SlO.rig fun a _ => TR.rig (fun a => z0k a) a) (SlO.ex TR.locl (TR.len fun _ => rfl) fun a _ => TR.ex a) (fun v => SlO.locl TR.locl) h hlo hw
theorem tell_blocks (hP : POk Tryz.prog F gl K) (t : Sl LBlock) (hlen : t.list.length ≤ 1000000) (h : Hp) (hlo : h.lo = h.nx) (hw : ∀ r, h.nx ≤ r → h.get r = none) :
  ∃ v h1 S, SlO OffF (TR LBlock.cells) 5 q0s v t.list h1 S ∧ Wid h h1 ∧ (∀ r, h1.nx ≤ r → h1.get r = none) ∧ (∀ s, S s → h.nx ≤ s ∧ s < h1.nx) ∧ HpLe h h1 ∧ Calling Tryz.prog F h h1 v q0o [t.av LBlock.cells] ∧ h1.lo = h.nx ∧ h.nx < h1.nx :=
 q7Q (B := fun v => SlO AnyF (TR LBlock.cells) 5 q0s v t.list) ((Clone_blocks hP t hlen .e).mono fun v g ⟨_, S, _, H⟩ => ⟨S, H⟩) (by simp [q1v, q2F q9x]) (SlO.rig fun a _ => TR.rig (fun a => q9x a) a) (SlO.ex TR.locl (TR.len fun _ => rfl) fun a _ => TR.ex a) (fun v => SlO.locl TR.locl) h hlo hw
theorem tell_ints (hP : POk Tryz.prog F gl K) (t : Sl Int) (hlen : t.list.length ≤ 1000000) (h : Hp) (hlo : h.lo = h.nx) (hw : ∀ r, h.nx ≤ r → h.get r = none) :
  ∃ v h1 S, IntO OffF v t.list h1 S ∧ Wid h h1 ∧ (∀ r, h1.nx ≤ r → h1.get r = none) ∧ (∀ s, S s → h.nx ≤ s ∧ s < h1.nx) ∧ HpLe h h1 ∧ Calling Tryz.prog F h h1 v q0j [t.av cI] ∧ h1.lo = h.nx ∧ h.nx < h1.nx :=
 q7Q (B := fun v => IntO AnyF v t.list) ((Clone_ints hP t hlen .e).mono fun v g ⟨_, S, _, H⟩ => ⟨S, H⟩) (by simp [q1v, q2F (e := cI) (fun _ => rfl)]) (IntO.rig _) (IntO.ex _) (fun v => IntO.locl) h hlo hw
theorem q5r {f : FuncId} {args : List AV} {h h1 : Hp} {v : AV} : (Ctx.of Tryz.prog gl ((K.tellP f args h v h1).tell [])).prim f args h = some (v, h1) := tellP_prim
theorem q6t {f : FuncId} {args : List AV} {h h1 : Hp} {v : AV} : (Ctx.of Tryz.prog gl ((K.tellP f args h v h1).tell [])).orc f args = none := z1s (K := K) (f := f) (args := args) (h := h) (h1 := h1) (v := v)
theorem prim_tellP2 {f g : FuncId} {args brgs : List AV} {h h1 k k1 : Hp} {v u : AV} (hne : ¬ (f = g ∧ args = brgs ∧ h = k)) : (Ctx.of Tryz.prog gl (((K.tellP f args h v h1).tellP g brgs k u k1).tell [])).prim f args h = some (v, h1) := by
 show ((K.tellP f args h v h1).tellP g brgs k u k1).prim f args h = _
 exact (if_neg hne).trans tellP_prim
theorem orc_tellP2 {f g : FuncId} {args brgs : List AV} {h h1 k k1 : Hp} {v u : AV} : (Ctx.of Tryz.prog gl (((K.tellP f args h v h1).tellP g brgs k u k1).tell [])).orc f args = none := by
 show ((K.tellP f args h v h1).tellP g brgs k u k1).orc f args = none
 by_cases q : f = g ∧ args = brgs
 ·obtain ⟨rfl, rfl⟩ := q; exact z1s (h := k) (h1 := k1) (v := u)
 ·exact (if_neg q).trans (z1s (h := h) (h1 := h1) (v := v))
set_option maxHeartbeats 4000000 in
theorem shape_Twin_mem (hV : Env F gl K) (p : LProg) (hs : SmallP p) (h0 : Hp) :
  CallsT Tryz.prog F h0 (fun v g => Wid h0 g ∧ ∃ tv fv ST SF, v = .agg [tv, fv] ∧ SlO AnyF (TypO AnyF) 4 q1W tv p.types.list g ST ∧ SlO AnyF (FunO AnyF) 2 q0R fv p.funcs.list g SF ∧ (∀ s, ST s → h0.nx ≤ s ∧ s < g.nx ∧ ¬ SF s) ∧ (∀ s, SF s → h0.nx ≤ s ∧ s < g.nx)) q9d [.agg p.cells] := by
 have hP := hV.P
 have hnt := hs.nt
 have hnf := hs.nf
 refine CallsT.body hP q0e E_shape_Twin rfl rfl ?_
 refine TW.seq (TW.regG hP (by simp <;> rfl) ?_)
 dsimp only [goK, q0a, q0f, q0d]
 refine TW.gen (fun g => g.get h0.nx = some (.cells q0k p.cells) ∧ (∃ a b, g.get (h0.nx + 1) = some (.cells q0k [a, b])) ∧ Wid h0 g ∧ g.nx = h0.nx + 2) ⟨by simp, ⟨.nilsl, .nilsl, by simp⟩, ((Wid.refl h0).new _).new _, by simp⟩ fun g hg => ?_
 obtain ⟨hg0, ⟨za, zb, hg1⟩, hw0, hn0⟩ := hg
 dsimp only [q0k, LProg.cells] at hg0 hg1
 refine TW.seq (TW.wf fun hwf => ?_)
 obtain ⟨tv, k1, S1, a1, a2, a3, a4, a5, a6, l1, m1⟩ := tell_types hP p.types (by omega) hs.parts g.up (by rw [up_lo, q2J]) (wf_up hwf)
 rw [q2J] at l1 m1
 obtain ⟨fv, k2, S2, b1, b2, b3, b4, b5, b6, l2, m2⟩ := tell_funcs hP p.funcs (by omega) k1.up (by rw [up_lo, q2J]) (wf_up a3)
 rw [q2J] at l2 m2
 have c1 := prim_tellP2 (gl := gl) (K := K) (f := q2v) (args := [p.types.av LType.cells]) (h := g.up) (v := tv) (h1 := k1) (g := q0n) (brgs := [p.funcs.av LFunc.cells]) (k := k1.up) (u := fv) (k1 := k2) (fun h => absurd h.1 (by decide))
 have c2 := q5r (gl := gl) (K := K.tellP q2v [p.types.av LType.cells] g.up tv k1) (f := q0n) (args := [p.funcs.av LFunc.cells]) (h := k1.up) (v := fv) (h1 := k2)
 have o1 := orc_tellP2 (gl := gl) (K := K) (f := q2v) (args := [p.types.av LType.cells]) (h := g.up) (v := tv) (h1 := k1) (g := q0n) (brgs := [p.funcs.av LFunc.cells]) (k := k1.up) (u := fv) (k1 := k2)
 have o2 := q6t (gl := gl) (K := K.tellP q2v [p.types.av LType.cells] g.up tv k1) (f := q0n) (args := [p.funcs.av LFunc.cells]) (h := k1.up) (v := fv) (h1 := k2)
 have hX := fun f a => (show (Ctx.of Tryz.prog gl (((K.tellP q2v [p.types.av LType.cells] g.up tv k1).tellP q0n [p.funcs.av LFunc.cells] k1.up fv k2).tell [])).ext f a = none from hV.X f a)
 have g1 : k1.get h0.nx = _ := ((q1G a2).get h0.nx (by omega)).trans hg0
 have g2 : k2.get h0.nx = _ := ((q1G b2).get h0.nx (by have := (q1G a2).nx; omega)).trans g1
 obtain ⟨_, _, d1, d2⟩ := a1.len
 obtain ⟨_, _, d3, d4⟩ := b1.len
 have hP2 := q4M (q4M hP a5 a6) b5 b6
 refine TW.drawH hP2 [] (fun e he => by cases he) [0, 1, 3, 0, 8, 31, 31, 127, 255, 511] (by kernel_rfl) (by kernel_rfl) (by simp [hX, c1, c2, o1, o2, hg0, g1, g2, d1, d2, d3, d4, l1, l2, (show ¬ g.nx ≤ h0.nx by omega), (show ¬ k1.nx ≤ h0.nx by have := (q1G a2).nx; omega), q2v, G_types_Twin, B_types_Twin, q0n, q5l, q5o, oneD, fpAt, fpOf, q0v, ldOf, q0T, q0m, FP.clash, FP.hard, FP.soft, overlap, inR, q0A, q1T, Nat.testBit] <;> rfl) ?_
 dsimp only [okD, q0a]
 have n1 := (q1G a2).nx
 have n2 := (q1G b2).nx
 have e1 := a1.any (τ := TypO AnyF) fun a row h S ⟨u, q1, q2⟩ => ⟨u, q1, q2.any⟩
 have e2 := b1.any (τ := TR LFunc.cells) fun _ _ _ _ h => h
 refine TW.gen (fun m => m.get h0.nx = some (.cells q0k [tv, fv]) ∧ m.get (h0.nx + 1) = some (.cells q0k [za, zb]) ∧ Wid h0 m ∧ h0.nx + 2 ≤ m.nx ∧ ∃ ST SF, SlO AnyF (TypO AnyF) 4 q1W tv p.types.list m ST ∧ SlO AnyF (TR LFunc.cells) 2 q0R fv p.funcs.list m SF ∧ (∀ s, ST s → h0.nx + 2 ≤ s ∧ s < m.nx ∧ ¬ SF s) ∧ (∀ s, SF s → h0.nx + 2 ≤ s ∧ s < m.nx)) ⟨?_, ?_, ?_, ?_, S1, S2, ?_, ?_, ?_, ?_⟩ fun m hm => ?_
 ·rw [q1F, get_put, if_pos rfl]
 ·rw [q1F, get_put, if_neg (by omega), get_put, if_neg (by omega), (q1G b2).get _ (by omega), (q1G a2).get _ (by omega)]; exact hg1
 ·refine ⟨by rw [nx_z, nx_put, nx_put]; omega, fun s hs => ?_⟩
  rw [q1F, get_put, if_neg (by omega), get_put, if_neg (by omega), (q1G b2).get _ (by omega), (q1G a2).get _ (by omega)]; exact hw0.get s hs
 ·rw [nx_z, nx_put, nx_put]; omega
 ·refine SlO.locl TypO.locl _ _ _ _ e1 (fun _ h => h) fun s hs => ?_
  have := a4 s hs
  rw [q2J] at this
  rw [q1F, get_put, if_neg (by omega), get_put, if_neg (by omega), (q1G b2).get _ (by omega)]
 ·refine SlO.locl TR.locl _ _ _ _ e2 (fun _ h => h) fun s hs => ?_
  have := b4 s hs
  rw [q2J] at this
  rw [q1F, get_put, if_neg (by omega), get_put, if_neg (by omega)]
 ·intro s hs
  have := a4 s hs
  rw [q2J] at this
  refine ⟨by omega, by rw [nx_z, nx_put, nx_put]; omega, fun h => ?_⟩
  have := b4 s h
  rw [q2J] at this
  omega
 ·intro s hs
  have := b4 s hs
  rw [q2J] at this
  exact ⟨by omega, by rw [nx_z, nx_put, nx_put]; omega⟩
 clear c1 c2 o1 o2 hX hP2 a5 a6 b5 b6 g1 g2 hg0 hg1 hw0 hwf a2 b2 a3 b3 a4 b4 a1 b1 e1 e2
 obtain ⟨q0, q1, hwm, hnm, ST, SF, hT, hF, hST, hSF⟩ := hm
 dsimp only [q0k] at q0 q1
 obtain ⟨z1, z2, z3, z4⟩ := hF.len
 have hlv := fun h => q3F (C := Ctx.of Tryz.prog gl K) (t := q7O) (h := h) z1 z2
 dsimp only [q7O] at hlv
 repeat' first | refine TW.seq ?_ | refine TW.block ?_ | (refine TW.regG hP (by simp [q0, hlv] <;> rfl) ?_; dsimp only [goK])
 refine TW.loopL (fun i : Nat => [(1, .ptr h0.nx 0), (2, .ptr (h0.nx + 1) 0), (19, fv), (20, .int .i64 p.funcs.list.length), (21, .int .i64 i)]) (fun i g => i ≤ p.funcs.list.length ∧ g.get h0.nx = some (.cells q0k [tv, fv]) ∧ g.get (h0.nx + 1) = some (.cells q0k [za, zb]) ∧ Wid h0 g ∧ h0.nx + 2 ≤ g.nx ∧ ∃ ST SF, SlO AnyF (TypO AnyF) 4 q1W tv p.types.list g ST ∧ SlO AnyF (mixR (FunO AnyF) (TR LFunc.cells)) 2 q0R fv (mixL i p.funcs.list) g SF ∧ (∀ s, ST s → h0.nx + 2 ≤ s ∧ s < g.nx ∧ ¬ SF s) ∧ (∀ s, SF s → h0.nx + 2 ≤ s ∧ s < g.nx)) (fun i => p.funcs.list.length - i) (0) ?_ ?_ ?_
 focus (repeat' first | exact q0c | refine q0b (by simp) ?_)
 ·exact ⟨Nat.zero_le _, q0, q1, hwm, hnm, ST, SF, hT, hF.mix0, hST, hSF⟩
 clear hT hF hST hSF ST SF q0 q1 hwm hnm m
 rintro i g ⟨hi, q0, q1, hw, hng, ST, SF, hT, hF, hST, hSF⟩
 dsimp only [q0k] at q0 q1
 repeat' first | refine TW.seq ?_ | (refine TW.regG hP (by simp <;> rfl) ?_; dsimp only [goK])
 refine TW.cond hP rfl (fun hc => TW.skip ?_) (fun hc => TW.exit ?_)
 ·simp at hc
  have hci := hc
  obtain ⟨x, hx⟩ := q0g hc
  have hxs := hs.funcs x (List.mem_of_getElem? hx)
  obtain ⟨hbl, hbb⟩ := hxs.blk
  obtain ⟨fx, r, rows, row, Si, hv, hrS, hgr, hrows, hri, hrl, hSi, hrow, wand⟩ := hF.at (mixR.locl FunO.locl TR.locl) (mixL_get hx)
  have hrow : row = x.cells := hrow
  subst hrow
  rw [mixL_len] at hv
  subst hv
  obtain ⟨hr1, hrn⟩ := hSF r hrS
  have hL := fun t => q2i (C := Ctx.of Tryz.prog gl K) (t := t) hgr hrows hri
  dsimp only [LFunc.cells] at hL hri
  dsimp only [q0a]
  refine TW.seq ?_
  refine TW.block ?_
  refine TW.seq (TW.regG hP (by simp [hL, q0L, q1h, hc] <;> rfl) ?_)
  dsimp only [goK, q0a, q0f, q0d]
  refine TW.gen (fun m => m.get g.nx = some (.cells q0R x.cells) ∧ Wid g m ∧ m.nx = g.nx + 1) ⟨by simp, ((Wid.refl g).new _).put (by simp) _, by simp⟩ fun m hm => ?_
  obtain ⟨hm, hwm, hnm⟩ := hm
  dsimp only [q0R, LFunc.cells] at hm
  refine TW.seq (TW.wf fun hwf => ?_)
  obtain ⟨bv, k, SB, a1, a2, a3, a4, a5, a6, l1, m1⟩ := tell_blocks hP x.blocks (by omega) m.up (by rw [up_lo, q2J]) (wf_up hwf)
  rw [q2J] at l1 m1
  have c1 := q5r (gl := gl) (K := K) (f := q0o) (args := [x.blocks.av LBlock.cells]) (h := m.up) (v := bv) (h1 := k)
  have o1 := q6t (gl := gl) (K := K) (f := q0o) (args := [x.blocks.av LBlock.cells]) (h := m.up) (v := bv) (h1 := k)
  have hX := fun f a => (show (Ctx.of Tryz.prog gl ((K.tellP q0o [x.blocks.av LBlock.cells] m.up bv k).tell [])).ext f a = none from hV.X f a)
  obtain ⟨_, _, d1, d2⟩ := a1.len
  have p0 : m.get h0.nx = _ := (hwm.get h0.nx (by omega)).trans q0
  have pk : k.get h0.nx = _ := ((q1G a2).get h0.nx (by omega)).trans p0
  have kr : k.get r = _ := ((q1G a2).get r (by omega)).trans ((hwm.get r hrn).trans hgr)
  have km : k.get g.nx = _ := ((q1G a2).get g.nx (by omega)).trans hm
  have hSt := q6p (h := k.up) (C := Ctx.of Tryz.prog gl ((K.tellP q0o [x.blocks.av LBlock.cells] m.up bv k).tell [])) (v := bv) (o := 1) (by rw [q2K]; exact kr) hrows hri d2 d1 (by omega)
  dsimp only [q0R] at hSt
  refine TW.drawH (q4M hP a5 a6) [] (fun e he => by cases he) [0, 1, 0, 0, 8, 24, 63, 127, 255] (by kernel_rfl) (by kernel_rfl) (by simp [hX, c1, o1, p0, pk, hm, km, l1, hSt, -storeAt, sz1, hci, (show ¬ m.nx ≤ g.nx by omega), (show ¬ m.nx ≤ r by omega), (show ¬ r = h0.nx by omega), (show ¬ r = g.nx by omega), q0o, q4A, q4D, oneD, fpAt, fpOf, q0v, ldOf, q0T, q0m, FP.clash, FP.hard, FP.soft, overlap, inR, q0A, q1T, Nat.testBit] <;> rfl) ?_
  dsimp only [okD, q0a]
  have kn := (q1G a2).nx
  have e1 := a1.any (τ := TR LBlock.cells) fun _ _ _ _ h => h
  refine TW.gen (fun m' => m'.get h0.nx = some (.cells q0k [tv, .sl r 0 p.funcs.list.length p.funcs.list.length 2 fx]) ∧ m'.get g.nx = some (.cells q0R x.cells) ∧ m'.get r = some (.cells q0R (rows.set i [.int .i64 x.sig, bv]).flatten) ∧ (∀ s, s < g.nx → s ≠ r → m'.get s = g.get s) ∧ g.nx < m'.nx ∧ SlO AnyF (TR LBlock.cells) 5 q0s bv x.blocks.list m' SB ∧ (∀ s, SB s → g.nx < s ∧ s < m'.nx)) ⟨?_, ?_, ?_, ?_, ?_, ?_, ?_⟩ fun m' hm' => ?_
  ·rw [q1F, get_put, if_neg (by omega)]; exact pk
  ·rw [q1F, get_put, if_neg (by omega)]; exact km
  ·rw [q1F, get_put, if_pos rfl]
  ·intro s h1 h2
   rw [q1F, get_put, if_neg (Ne.symm h2), (q1G a2).get s (by omega), hwm.get s h1]
  ·rw [nx_z, nx_put]; omega
  ·refine SlO.locl TR.locl _ _ _ _ e1 (fun _ h => h) fun s hs => ?_
   have := a4 s hs
   rw [q2J] at this
   rw [q1F, get_put, if_neg (by omega)]
  ·intro s hs
   have := a4 s hs
   rw [q2J] at this
   rw [nx_z, nx_put]; omega
  clear c1 o1 hX hSt e1 a1 a2 a3 a4 a5 a6 pk kr km p0 l1 m1 hm hwm hnm hwf kn k m
  obtain ⟨w0, w1, w2, w3, w4, w5, w6⟩ := hm'
  dsimp only [q0k, q0R, LFunc.cells] at w0 w1 w2
  repeat' first | refine TW.seq ?_ | refine TW.block ?_ | (refine TW.regG hP (by simp [w1] <;> rfl) ?_; dsimp only [goK])
  refine TW.loopL (fun kk : Nat => [(1, .ptr h0.nx 0), (2, .ptr (h0.nx + 1) 0), (3, .int .i64 i), (4, .ptr g.nx 0), (19, .sl r 0 p.funcs.list.length p.funcs.list.length 2 fx), (20, .int .i64 p.funcs.list.length), (21, .int .i64 i), (35, x.blocks.av LBlock.cells), (36, .int .i64 x.blocks.list.length), (37, .int .i64 kk)]) (fun kk m => kk ≤ x.blocks.list.length ∧ m.get h0.nx = some (.cells q0k [tv, .sl r 0 p.funcs.list.length p.funcs.list.length 2 fx]) ∧ m.get r = some (.cells q0R (rows.set i [.int .i64 x.sig, bv]).flatten) ∧ (∀ s, s < g.nx → s ≠ r → m.get s = g.get s) ∧ g.nx < m.nx ∧ ∃ SB, SlO AnyF (mixR (BlkO AnyF) (TR LBlock.cells)) 5 q0s bv (mixL kk x.blocks.list) m SB ∧ (∀ s, SB s → g.nx < s ∧ s < m.nx)) (fun kk => x.blocks.list.length - kk) (0) ?_ ?_ ?_
  focus (repeat' first | exact q0c | refine q0b (by simp) ?_)
  ·exact ⟨Nat.zero_le _, w0, w2, w3, w4, SB, w5.mix0, w6⟩
  clear w0 w1 w2 w3 w4 w5 w6 SB m'
  rintro kk m ⟨hkk, w0, w2, w3, w4, SB, w5, w6⟩
  dsimp only [q0k, q0R] at w0 w2
  repeat' first | refine TW.seq ?_ | (refine TW.regG hP (by simp <;> rfl) ?_; dsimp only [goK])
  refine TW.cond hP rfl (fun hc => TW.skip ?_) (fun hc => TW.exit ?_)
  ·simp at hc
   have hck := hc
   obtain ⟨b, hb⟩ := q0g hc
   have hav := q0z (e := LBlock.cells) (show 0 < x.blocks.list.length by omega)
   obtain ⟨hb1, hb2⟩ := hbb b (List.mem_of_getElem? hb)
   obtain ⟨fb, rb, rowsb, rowb, Sbi, hvb, hrbS, hgrb, hrowsb, hrib, hrlb, hSbi, hrowb, wandb⟩ := w5.at (mixR.locl BlkO.locl TR.locl) (mixL_get hb)
   have hrowb : rowb = b.cells := hrowb
   subst hrowb
   rw [mixL_len] at hvb
   subst hvb
   obtain ⟨hrb1, hrbn⟩ := w6 rb hrbS
   dsimp only [q0a]
   refine TW.seq ?_
   refine TW.block ?_
   refine TW.seq (TW.regG hP (by simp [hb, hav] <;> rfl) ?_)
   dsimp only [goK, q0a, q0f, q0d]
   refine TW.gen (fun k => k.get m.nx = some (.cells q0s b.cells) ∧ Wid m k ∧ k.nx = m.nx + 1) ⟨by simp, ((Wid.refl m).new _).put (by simp) _, by simp⟩ fun k hk => ?_
   obtain ⟨hk, hwk, hnk⟩ := hk
   dsimp only [q0s, LBlock.cells] at hk
   repeat' first | refine TW.seq ?_ | (refine TW.regG hP (by simp [hk] <;> rfl) ?_; dsimp only [goK])
   refine TO.ccall hP q5I (Clone_inss hP b.ins (by omega) _) (by simp) rfl rfl rfl rfl (fun lv bz ⟨hwz, SI, hSI, hIz⟩ => ?_)
   refine TO.runsG hP (by simp <;> rfl) ?_
   try dsimp only [goK]
   obtain ⟨y1, y2, y3, y4⟩ := hIz.len
   have hlu := fun h => q3F (C := Ctx.of Tryz.prog gl K) (t := q3V) (h := h) y1 y2
   dsimp only [q3V] at hlu
   repeat' first | refine TW.seq ?_ | refine TW.block ?_ | (refine TW.regG hP (by simp [hlu] <;> rfl) ?_; dsimp only [goK])
   refine TW.loopL (fun j : Nat => [(1, .ptr h0.nx 0), (2, .ptr (h0.nx + 1) 0), (3, .int .i64 i), (4, .ptr g.nx 0), (5, .int .i64 kk), (7, lv), (19, .sl r 0 p.funcs.list.length p.funcs.list.length 2 fx), (20, .int .i64 p.funcs.list.length), (21, .int .i64 i), (35, x.blocks.av LBlock.cells), (36, .int .i64 x.blocks.list.length), (37, .int .i64 kk), (45, lv), (46, .int .i64 b.ins.list.length), (47, .int .i64 j)]) (fun j m' => j ≤ b.ins.list.length ∧ Wid k m' ∧ ∃ T, (∀ s, T s → k.nx ≤ s ∧ s < m'.nx) ∧ SlO AnyF (mixR (InsO OffF) (TR LIns.cells)) 7 q0M lv (mixL j b.ins.list) m' T) (fun j => b.ins.list.length - j) (0) ?_ ?_ ?_
   focus (repeat' first | exact q0c | refine q0b (by simp [hav]) ?_)
   ·exact ⟨Nat.zero_le _, hwz, SI, hSI, hIz.mix0⟩
   rintro j b0 ⟨hj, hwb, T, hT, hI⟩
   repeat' first | refine TW.seq ?_ | (refine TW.regG hP (by simp <;> rfl) ?_; dsimp only [goK])
   refine TW.cond hP rfl (fun hc => TW.skip ?_) (fun hc => TW.exit ?_)
   ·simp at hc
    have hcj := hc
    obtain ⟨y, hy⟩ := q0g hc
    obtain ⟨hy1, hy2⟩ := hb2 y (List.mem_of_getElem? hy)
    obtain ⟨fi, q, rows2, row2, Sj, hvi, hqT, hgq, hrows2, hrj, hrl2, hSj, hrow2, wand2⟩ := hI.at (mixR.locl InsO.locl TR.locl) (mixL_get hy)
    have hrow2 : row2 = y.cells := hrow2
    subst hrow2
    rw [mixL_len] at hvi
    subst hvi
    obtain ⟨hq1, hqn⟩ := hT q hqT
    have hL2 := fun t => q2i (C := Ctx.of Tryz.prog gl K) (t := t) hgq hrows2 hrj
    dsimp only [LIns.cells] at hL2 hrj
    dsimp only [q0a]
    refine TW.seq ?_
    refine TW.block ?_
    refine TW.seq (TW.regG hP (by simp [hL2, q0L, q1h, hc] <;> rfl) ?_)
    dsimp only [goK, q0a, q0f, q0d]
    refine TW.gen (fun u => u.get b0.nx = some (.cells q0M y.cells) ∧ Wid b0 u ∧ u.nx = b0.nx + 1) ⟨by simp, ((Wid.refl b0).new _).put (by simp) _, by simp⟩ fun u hu => ?_
    obtain ⟨hu, hwu, hnu⟩ := hu
    dsimp only [q0M, LIns.cells] at hu
    refine TW.wf fun hwf => ?_
    obtain ⟨va, k1, Sa, a1, a2, a3, a4, a5, a6, l1, m1⟩ := tell_ints hP y.args (by omega) u.up (by rw [up_lo, q2J]) (wf_up hwf)
    rw [q2J] at l1 m1
    obtain ⟨vf, k2, Sf, b1, b2, b3, b4, b5, b6, l2, m2⟩ := tell_ints hP y.frm (by omega) k1.up (by rw [up_lo, q2J]) (wf_up a3)
    rw [q2J] at l2 m2
    have c1 := prim_tellP2 (gl := gl) (K := K) (f := q0j) (args := [y.args.av cI]) (h := u.up) (v := va) (h1 := k1) (g := q0j) (brgs := [y.frm.av cI]) (k := k1.up) (u := vf) (k1 := k2) (fun h => by have := congrArg Hp.nx h.2.2; rw [q2J, q2J] at this; omega)
    have c2 := q5r (gl := gl) (K := K.tellP q0j [y.args.av cI] u.up va k1) (f := q0j) (args := [y.frm.av cI]) (h := k1.up) (v := vf) (h1 := k2)
    have o1 := orc_tellP2 (gl := gl) (K := K) (f := q0j) (args := [y.args.av cI]) (h := u.up) (v := va) (h1 := k1) (g := q0j) (brgs := [y.frm.av cI]) (k := k1.up) (u := vf) (k1 := k2)
    have o2 := q6t (gl := gl) (K := K.tellP q0j [y.args.av cI] u.up va k1) (f := q0j) (args := [y.frm.av cI]) (h := k1.up) (v := vf) (h1 := k2)
    have hX := fun f a => (show (Ctx.of Tryz.prog gl (((K.tellP q0j [y.args.av cI] u.up va k1).tellP q0j [y.frm.av cI] k1.up vf k2).tell [])).ext f a = none from hV.X f a)
    obtain ⟨_, _, f1, f2⟩ := a1.len
    obtain ⟨_, _, f3, f4⟩ := b1.len
    have n1 := (q1G a2).nx
    have n2 := (q1G b2).nx
    have nb := hwb.nx
    have u1 : k1.get b0.nx = _ := ((q1G a2).get b0.nx (by omega)).trans hu
    have u2 : k2.get b0.nx = _ := ((q1G b2).get b0.nx (by omega)).trans u1
    have uq : u.get q = _ := (hwu.get q hqn).trans hgq
    have kq : k2.get q = _ := ((q1G b2).get q (by omega)).trans (((q1G a2).get q (by omega)).trans uq)
    have hSt := q6p (h := k2.up) (C := Ctx.of Tryz.prog gl (((K.tellP q0j [y.args.av cI] u.up va k1).tellP q0j [y.frm.av cI] k1.up vf k2).tell [])) (v := va) (o := 5) (by rw [q2K]; exact kq) hrows2 hrj f2 f1 (by omega)
    have hSu := q6p (h := (k2.put q (.cells q0M (rows2.set j [.int .u8 y.op, .int .i64 y.type, .int .i64 y.a, .int .i64 y.b, .int .i64 y.n, va, y.frm.av cI]).flatten)).up) (C := Ctx.of Tryz.prog gl (((K.tellP q0j [y.args.av cI] u.up va k1).tellP q0j [y.frm.av cI] k1.up vf k2).tell [])) (v := vf) (o := 6) (by rw [q2K, get_put, if_pos rfl]) (q2u hrows2 rfl) (q3i hrj) f4 f3 (by omega)
    dsimp only [q0M] at hSt hSu
    refine TW.drawH (q4M (q4M hP a5 a6) b5 b6) [] (fun e he => by cases he) [0, 0, 0, 0, 0, 16, 48, 0, 128, 496, 1011, 2035, 4083, 8191, 16383, 32767] (by kernel_rfl) (by kernel_rfl) (by simp [hX, c1, c2, o1, o2, hu, u1, u2, l1, l2, hSt, hSu, -storeAt, sz1, hcj, (show ¬ u.nx ≤ b0.nx by omega), (show ¬ u.nx ≤ q by omega), (show ¬ k1.nx ≤ q by omega), (show ¬ k2.nx ≤ q by omega), (show ¬ q = b0.nx by omega), q0j, q8z, q8F, oneD, fpAt, fpOf, q0v, ldOf, q0T, q0m, FP.clash, FP.hard, FP.soft, overlap, inR, q0A, q1T, Nat.testBit] <;> rfl) ?_
    dsimp only [okD, q0a, q0f]
    repeat' first | (refine TW.regG hP (by simp <;> rfl) ?_; dsimp only [goK]) | simp only [q0d]
    have a4' : ∀ s, Sa s → u.nx ≤ s ∧ s < k1.nx := fun s hs => by have := a4 s hs; rw [q2J] at this; exact this
    have b4' : ∀ s, Sf s → k1.nx ≤ s ∧ s < k2.nx := fun s hs => by have := b4 s hs; rw [q2J] at this; exact this
    refine ⟨j + 1, by omega, trivial, ?_, by omega, ⟨by rw [nx_z, nx_put, nx_put]; omega, fun s hs => ?_⟩, (fun s => T s ∨ Sa s ∨ Sf s), ?_, ?_⟩
    ·repeat' first | exact q0c | refine q0b (by simp [hav, w64s (show j < 9000000000000000000 by omega)]) ?_
    ·rw [q1F, get_put, if_neg (by omega), get_put, if_neg (by omega), (q1G b2).get s (by omega), (q1G a2).get s (by omega), hwu.get s (by omega), hwb.get s hs]
    ·rintro s (hs | hs | hs)
     ·have := hT s hs; rw [nx_z, nx_put, nx_put]; omega
     ·have := a4' s hs; rw [nx_z, nx_put, nx_put]; omega
     ·have := b4' s hs; rw [nx_z, nx_put, nx_put]; omega
    ·rw [← mixL_set hy]
     refine wand2 _ (fun s => Sa s ∨ Sf s) (true, y) [.int .u8 y.op, .int .i64 y.type, .int .i64 y.a, .int .i64 y.b, .int .i64 y.n, va, vf] rfl (by simp [get_put]) ?_ ?_ ?_ _ (fun s hs => .inl hs) (fun s hs => .inr hs)
     ·intro s h1 h2 h3
      have := hT s h1
      rw [q1F, get_put, if_neg (Ne.symm h3), get_put, if_neg (Ne.symm h3), (q1G b2).get s (by omega), (q1G a2).get s (by omega), hwu.get s (by omega)]
     ·rintro s (hs | hs)
      ·exact .inr fun h => by have := hT s h; have := a4' s hs; omega
      ·exact .inr fun h => by have := hT s h; have := b4' s hs; omega
     ·refine ⟨va, vf, Sa, Sf, rfl, IntO.locl _ _ _ _ a1 (fun _ h => h) fun s hs => ?_, IntO.locl _ _ _ _ b1 (fun _ h => h) fun s hs => ?_, fun s hs => ⟨.inl hs, fun h => by have := a4' s hs; have := b4' s h; omega⟩, fun s hs => .inr hs⟩
      ·have := a4' s hs
       rw [q1F, get_put, if_neg (by omega), get_put, if_neg (by omega), (q1G b2).get s (by omega)]
      ·have := b4' s hs
       rw [q1F, get_put, if_neg (by omega), get_put, if_neg (by omega)]
   ·simp at hc
    have nb := hwb.nx
    have v0 : b0.get h0.nx = _ := (hwb.get h0.nx (by omega)).trans ((hwk.get h0.nx (by omega)).trans w0)
    have vr : b0.get r = _ := (hwb.get r (by omega)).trans ((hwk.get r (by omega)).trans w2)
    have vb : b0.get rb = _ := (hwb.get rb (by omega)).trans ((hwk.get rb (by omega)).trans hgrb)
    have hLr := fun t o => q2n (C := Ctx.of Tryz.prog gl K) (t := t) (o := o) vr (q2u hrows rfl) (q3i hri)
    have hSt := store10 (h := b0) (C := Ctx.of Tryz.prog gl K) (v := lv) vb hrowsb hrib y4 y3 (by omega)
    dsimp only [q0s, LBlock.cells] at hSt
    have hI2 := hI.mixAll (by simpa using hc)
    dsimp only [q0a]
    repeat' first | (refine TW.regG hP (by simp [v0, hLr, q0L, q1h, hSt, -storeAt, sz1, hci, hck] <;> rfl) ?_; dsimp only [goK]) | simp only [q0d]
    refine ⟨kk + 1, by omega, trivial, ?_, by omega, ?_, ?_, ?_, by rw [nx_put]; omega, (fun s => SB s ∨ T s), ?_, ?_⟩
    ·repeat' first | exact q0c | refine q0b (by simp [hav, w64s (show kk < 9000000000000000000 by omega)]) ?_
    ·rw [get_put, if_neg (by omega)]; exact v0
    ·rw [get_put, if_neg (by omega)]; exact vr
    ·intro s h1 h2
     rw [get_put, if_neg (by omega), hwb.get s (by omega), hwk.get s (by omega), w3 s h1 h2]
    ·rw [← mixL_set hb]
     refine wandb _ T (true, b) (lv :: b.ed.cells) rfl (by rw [get_put, if_pos rfl]; rfl) ?_ ?_ ?_ _ (fun s hs => .inl hs) (fun s hs => .inr hs)
     ·intro s h1 h2 h3
      have := w6 s h1
      rw [get_put, if_neg (Ne.symm h3), hwb.get s (by omega), hwk.get s (by omega)]
     ·intro s hs
      exact .inr fun h => by have := w6 s h; have := hT s hs; omega
     ·refine ⟨lv, rfl, SlO.locl InsO.locl _ _ _ _ hI2 (fun _ h => h) fun s hs => ?_⟩
      have := hT s hs
      rw [get_put, if_neg (by omega)]
    ·rintro s (hs | hs)
     ·have := w6 s hs; rw [nx_put]; omega
     ·have := hT s hs; rw [nx_put]; omega
  ·simp at hc
   have w7 := w5.mixAll (by simpa using hc)
   dsimp only [q0a]
   repeat' first | (refine TW.regG hP (by simp <;> rfl) ?_; dsimp only [goK]) | simp only [q0d]
   refine ⟨i + 1, by omega, trivial, ?_, by omega, w0, ?_, ?_, by omega, ST, (fun s => SF s ∨ SB s), ?_, ?_, ?_, ?_⟩
   ·repeat' first | exact q0c | refine q0b (by simp [w64s (show i < 9000000000000000000 by omega)]) ?_
   ·exact (w3 _ (by omega) (by omega)).trans q1
   ·exact ⟨by have := hw.nx; omega, fun s hs => (w3 s (by omega) (by omega)).trans (hw.get s hs)⟩
   ·exact SlO.locl TypO.locl _ _ _ _ hT (fun _ h => h) fun s hs => w3 s (hST s hs).2.1 fun e => (hST s hs).2.2 (e ▸ hrS)
   ·rw [← mixL_set hx]
    refine wand _ SB (true, x) [.int .i64 x.sig, bv] rfl w2 (fun s h1 _ h3 => w3 s (hSF s h1).2 h3) (fun s hs => .inr fun h => by have := hSF s h; have := w6 s hs; omega) ⟨bv, rfl, w7⟩ _ (fun s hs => .inl hs) (fun s hs => .inr hs)
   ·intro s hs
    have := hST s hs
    exact ⟨this.1, by omega, fun h => h.elim this.2.2 fun h => by have := w6 s h; omega⟩
   ·rintro s (hs | hs)
    ·have := hSF s hs; omega
    ·have := w6 s hs; omega
 ·simp at hc
  dsimp only [q0a]
  repeat' first | refine TW.seq ?_ | (refine TW.regG hP (by simp [q0, q1, d1, d3] <;> rfl) ?_; dsimp only [goK]) | simp only [q0a]
  refine TW.ret ⟨.inr rfl, _, [.agg [tv, fv]], rfl, by simp [resK, get_put], ?_⟩
  refine ⟨hw.put (by omega) _, tv, fv, ST, SF, rfl, ?_, ?_, ?_, ?_⟩
  ·refine SlO.locl TypO.locl _ _ _ _ hT (fun _ h => h) fun s hs => ?_
   rw [get_put, if_neg (by have := hST s hs; omega)]
  ·refine SlO.locl FunO.locl _ _ _ _ (hF.mixAll (by simpa using hc)) (fun _ h => h) fun s hs => ?_
   rw [get_put, if_neg (by have := hSF s hs; omega)]
  ·intro s hs
   have := hST s hs
   exact ⟨by omega, by rw [nx_put]; omega, this.2.2⟩
  ·intro s hs
   have := hSF s hs
   exact ⟨by omega, by rw [nx_put]; omega⟩
structure Open (h0 : Hp) (p : LProg) (f : Nat) (x : LFunc) (v : AV) (q : Nat) (bv : AV) (g : Hp) (Sb : Nat → Prop) (W : Nat → Prop) : Prop where
 obj : g.get q = some (.cells 69 [.int .i64 (q0i p x), bv])
 q0 : h0.nx ≤ q ∧ q < g.nx ∧ ¬ W q
 blk : SlO AnyF (BlkO AnyF) 5 q0s bv x.blocks.list g Sb
 sub : ∀ s, Sb s → W s
 rng : ∀ s, W s → h0.nx ≤ s ∧ s < g.nx
 close : ∀ (g' : Hp) (bl : List LBlock) (Sb' : Nat → Prop), (∀ s, W s → ¬ Sb s → g'.get s = g.get s) → (∀ s, Sb' s → Sb s ∨ ¬ W s) → SlO AnyF (BlkO AnyF) 5 q0s bv bl g' Sb' →
  ∃ tv fv ST SF, v = .agg [tv, fv] ∧ SlO AnyF (TypO AnyF) 4 q1W tv p.types.list g' ST ∧ SlO AnyF (FunO AnyF) 2 q0R fv (p.funcs.list.set f { x with blocks := .mk bl }) g' SF ∧ (∀ s, ST s → W s ∧ ¬ SF s) ∧ (∀ s, SF s → W s ∨ Sb' s)
set_option maxHeartbeats 4000000 in
theorem of_mem (hV : Env F gl K) (p : LProg) (f : Int) (hs : SmallP p) (ho : OpsP p) (h0 : Hp) :
  CallsT Tryz.prog F h0 (fun v g => Wid h0 g ∧ ((q0K p f ≠ 0 ∧ v = .tup [.agg [.nilsl, .nilsl], .nilptr, .int .i64 (q0K p f)]) ∨ (q0K p f = 0 ∧ ∃ x u q bv Sb W, p.funcs.list[f.toNat]? = some x ∧ v = .tup [u, .ptr q 0, .int .i64 0] ∧ Open h0 p f.toNat x u q bv g Sb W))) N_tidy_of [.agg p.cells, .int .i64 f] := by
 have hP := hV.P
 have hX := hV.X
 refine CallsT.body hP q0e E_tidy_of rfl rfl ?_
 have e1 := shape_Regs_pure hV p f hs ho
 refine TW.seq (TW.regG hP (by simp <;> rfl) ?_)
 dsimp only [goK, q0a, q0f, q0d]
 refine TW.gen (fun g => g.get h0.nx = some (.cells q0k p.cells) ∧ g.get (h0.nx + 1) = some (.cells q0k [.nilsl, .nilsl]) ∧ Wid h0 g ∧ g.nx = h0.nx + 2) ⟨by simp, by simp, ((Wid.refl h0).new _).new _, by simp⟩ fun g hg => ?_
 obtain ⟨hg0, hg1, hw0, hn0⟩ := hg
 dsimp only [q0k] at hg0 hg1
 by_cases ha : q0K p f = 0
 ·rw [ha] at e1
  obtain ⟨c1, c2, c3⟩ := q4P ha
  obtain ⟨n, rfl⟩ := Int.eq_ofNat_of_zero_le c2
  have hn : n < p.funcs.list.length := by omega
  obtain ⟨x, hx⟩ := q0g hn
  obtain ⟨a1, a2, a3, a4, a5, a6⟩ := q2M ((q2d c1).2.1 x (List.mem_of_getElem? hx))
  obtain ⟨m0, hm0⟩ := Int.eq_ofNat_of_zero_le a1
  have hml : m0 < p.types.list.length := by omega
  obtain ⟨y, hy⟩ := q0g hml
  have hsp : q0i p x = y.parts.list.length := by simp [q0i, hm0, hy]
  repeat' first | refine TW.seq ?_ | refine TW.skip ?_ | refine TW.condF hP rfl ?_ | (refine TW.regG hP (by simp [hg0] <;> rfl) ?_; dsimp only [goK]) | (refine TO.scall hP I_shape_Regs (e1) ?_ rfl rfl rfl rfl ?_; (focus (simp; done)); refine TO.runsG hP (by simp <;> rfl) ?_; dsimp only [goK])
  refine TO.ccall hP I_shape_Twin (shape_Twin_mem hV p hs g) (by simp) rfl rfl rfl rfl (fun v k ⟨hwk, tv, fv, ST, SF, hv, hT, hF, hST, hSF⟩ => ?_)
  subst hv
  have k0 : k.get h0.nx = _ := (hwk.get h0.nx (by omega)).trans hg0
  obtain ⟨_, _, d1, d2⟩ := hT.len
  obtain ⟨_, _, d3, d4⟩ := hF.len
  have nk := hwk.nx
  refine TO.runsG hP (by simp [d1, d3] <;> rfl) ?_
  try dsimp only [goK, q0a]
  refine TW.gen (fun m => m.get h0.nx = some (.cells q0k p.cells) ∧ m.get (h0.nx + 1) = some (.cells q0k [.nilsl, .nilsl]) ∧ m.get k.nx = some (.cells q0k [tv, fv]) ∧ Wid k m ∧ m.nx = k.nx + 1) ⟨?_, ?_, ?_, ?_, ?_⟩ fun m hm => ?_
  ·rw [get_put, if_neg (by omega), get_new, if_neg (by omega)]; exact k0
  ·rw [get_put, if_neg (by omega), get_new, if_neg (by omega)]; exact (hwk.get _ (by omega)).trans hg1
  ·rw [get_put, if_pos rfl]
  ·exact ((Wid.refl k).new _).put (Nat.le_refl _) _
  ·rw [nx_put, nx_new]
  obtain ⟨w0, w1, w2, w3, w4⟩ := hm
  dsimp only [q0k] at w0 w1 w2
  have hF2 := SlO.locl FunO.locl _ m _ SF hF (fun _ h => h) (q5P w3 fun s hs => (hSF s hs).2)
  have hT2 := SlO.locl TypO.locl _ m _ ST hT (fun _ h => h) (q5P w3 fun s hs => (hST s hs).2.1)
  obtain ⟨fx, r, rows, row, Si, hfv, hrS, hgr, hrows, hri, hrl, hSi, ⟨bv, rfl, hB⟩, wand⟩ := hF2.at FunO.locl hx
  subst hfv
  obtain ⟨hr1, hr2⟩ := hSF r hrS
  have hav := q0z (e := LType.cells) (show 0 < p.types.list.length by omega)
  have hav2 := q0z (e := LFunc.cells) (show 0 < p.funcs.list.length by omega)
  have hL := fun t o => q2n (h := m.up) (C := Ctx.of Tryz.prog gl (K.tell [])) (t := t) (o := o) (by rw [q2K]; exact hgr) hrows hri
  have hL0 := fun t => q2i (h := m.up) (C := Ctx.of Tryz.prog gl (K.tell [])) (t := t) (by rw [q2K]; exact hgr) hrows hri
  obtain ⟨_, _, d5, d6⟩ := hB.len
  have fin : ∀ (pn : Int) (m' : Hp), pn = q0i p x → m' = (((m.new (.cells 69 [.int .i64 pn, bv])).put (h0.nx + 1) (.cells 25 [tv, .sl r 0 p.funcs.list.length p.funcs.list.length 2 fx])).z) → True → Wid h0 m' ∧ ((q0K p n ≠ 0 ∧ (AV.tup [.agg [tv, .sl r 0 p.funcs.list.length p.funcs.list.length 2 fx], .ptr m.nx 0, .int .i64 0]) = .tup [.agg [.nilsl, .nilsl], .nilptr, .int .i64 (q0K p n)]) ∨ (q0K p n = 0 ∧ ∃ x u q bv Sb W, p.funcs.list[(n : Int).toNat]? = some x ∧ (AV.tup [.agg [tv, .sl r 0 p.funcs.list.length p.funcs.list.length 2 fx], .ptr m.nx 0, .int .i64 0]) = .tup [u, .ptr q 0, .int .i64 0] ∧ Open h0 p (n : Int).toNat x u q bv m' Sb W)) := by
   rintro pn m' rfl rfl -
   have ag : ∀ s, s < m.nx → s ≠ h0.nx + 1 → (((m.new (.cells 69 [.int .i64 (q0i p x), bv])).put (h0.nx + 1) (.cells 25 [tv, .sl r 0 p.funcs.list.length p.funcs.list.length 2 fx])).z).get s = m.get s := fun s h1 h2 => by
    rw [q1F, get_put, if_neg (Ne.symm h2), get_new, if_neg (by omega)]
   refine ⟨⟨by rw [nx_z, nx_put, nx_new]; omega, fun s hs => ?_⟩, .inr ⟨ha, x, _, m.nx, bv, Si, fun s => ST s ∨ SF s, hx, rfl, ⟨?_, ⟨by omega, by rw [nx_z, nx_put, nx_new]; omega, ?_⟩, ?_, fun s hs => .inr (hSi s hs).1, ?_, ?_⟩⟩⟩
   ·rw [ag s (by omega) (by omega), w3.get s (by omega), hwk.get s (by omega), hw0.get s hs]
   ·rw [q1F, get_put, if_neg (by omega), get_new, if_pos rfl]
   ·rintro (h | h)
    ·have := hST _ h; omega
    ·have := hSF _ h; omega
   ·exact SlO.locl BlkO.locl _ _ _ _ hB (fun _ h => h) fun s hs => ag s (by have := hSF s (hSi s hs).1; omega) (by have := hSF s (hSi s hs).1; omega)
   ·rintro s (h | h)
    ·have := hST s h; rw [nx_z, nx_put, nx_new]; omega
    ·have := hSF s h; rw [nx_z, nx_put, nx_new]; omega
   ·intro g' bl Sb' h1 h2 h3
    have hb : ∀ s, ST s ∨ SF s → s < m.nx ∧ s ≠ h0.nx + 1 := by
     rintro s (h | h)
     ·have := hST s h; omega
     ·have := hSF s h; omega
    have g1 : ∀ s, (ST s ∨ SF s) → ¬ Si s → g'.get s = m.get s := fun s h h' => (h1 s h h').trans (ag s (hb s h).1 (hb s h).2)
    refine ⟨tv, _, ST, fun s => SF s ∨ Sb' s, rfl, SlO.locl TypO.locl _ _ _ _ hT2 (fun _ h => h) fun s hs => g1 s (.inl hs) fun h => (hST s hs).2.2 (hSi s h).1, ?_, fun s hs => ⟨.inl hs, fun h => h.elim (hST s hs).2.2 fun h => (h2 s h).elim (fun h => (hST s hs).2.2 (hSi s h).1) fun h => h (.inl hs)⟩, fun s hs => hs.imp (fun h => .inr h) id⟩
    refine wand g' Sb' { x with blocks := .mk bl } [.int .i64 x.sig, bv] rfl ?_ (fun s h _ h' => g1 s (.inr h) ‹_›) (fun s hs => (h2 s hs).imp id fun h h' => h (.inr h')) ⟨bv, rfl, h3⟩ _ (fun s hs => .inl hs) (fun s hs => .inr hs)
    rw [q5A hri, g1 r (.inr hrS) fun h => (hSi r h).2 rfl]
    exact hgr
  rcases av_both (e := cI) y.parts with ⟨hpa, hpl⟩ | hpa
  ·try refine TW.seq ?_
   refine TW.drawH hP [] (fun e he => by cases he) [0, 0, 2, 0, 8, 0, 56, 120, 248, 510, 1022, 2046, 4094, 0, 8192, 0, 57344, 122880, 253952, 524286, 1048574, 1, 4194303, 8388607] (by kernel_rfl) (by kernel_rfl) (by simp [w0, w1, w2, hL, q0L, q1h, hx, hy, hm0, hav, hav2, hpa, d1, d3, d6, decide_eq_true hn, (show ¬ m.nx ≤ h0.nx by omega), (show ¬ m.nx ≤ h0.nx + 1 by omega), (show ¬ m.nx ≤ k.nx by omega), (show ¬ m.nx ≤ r by omega), (show ¬ h0.nx + 1 = r by omega), (show ¬ h0.nx + 1 = k.nx by omega), (show ¬ m.nx = h0.nx + 1 by omega), (show ¬ m.nx = h0.nx by omega), (show ¬ m.nx = k.nx by omega), (show ¬ m.nx = r by omega), oneD, fpAt, fpOf, q0v, ldOf, q0T, q0m, FP.clash, FP.hard, FP.soft, overlap, inR, q0A, q1T, Nat.testBit] <;> rfl) ?_
   repeat' (refine q1A (fun hb => ?_) (fun hb => ?_) <;> (try simp only [Bool.not_eq_eq_eq_not, Bool.not_true, Bool.not_false] at hb) <;> refine q4H (by simp [hb, hX, w0, w1, w2, hL, hL0, q0L, q1h, hx, hy, hm0, hav, hav2, hpa, d1, d2, d3, d4, d5, d6, decide_eq_true hn, decide_eq_true hml, (show ¬ m.nx ≤ h0.nx by omega), (show ¬ m.nx ≤ h0.nx + 1 by omega), (show ¬ m.nx ≤ k.nx by omega), (show ¬ m.nx ≤ r by omega), (show ¬ r = h0.nx by omega), (show ¬ h0.nx = r by omega), (show ¬ r = h0.nx + 1 by omega), (show ¬ h0.nx + 1 = r by omega), (show ¬ r = k.nx by omega), (show ¬ k.nx = r by omega), (show ¬ h0.nx + 1 = k.nx by omega), (show ¬ k.nx = h0.nx + 1 by omega), (show ¬ k.nx = h0.nx by omega), (show ¬ h0.nx = k.nx by omega), (show ¬ m.nx = h0.nx + 1 by omega), (show ¬ h0.nx + 1 = m.nx by omega), (show ¬ m.nx = h0.nx by omega), (show ¬ m.nx = k.nx by omega), (show ¬ m.nx = r by omega), oneD, fpAt, fpOf, q0v, ldOf, q0T, q0m, FP.clash, FP.hard, FP.soft, overlap, inR, q0A, q1T, Nat.testBit, show ¬ m.nx + 1 ≤ m.nx by omega, show ¬ m.nx + 2 ≤ m.nx by omega, show ¬ m.nx + 2 ≤ m.nx + 1 by omega, show ¬ m.nx + 3 ≤ m.nx by omega, show ¬ m.nx + 3 ≤ m.nx + 1 by omega, show ¬ m.nx + 3 ≤ m.nx + 2 by omega] <;> rfl) ?_)
   all_goals dsimp only [okD, q0a]
   refine TW.ret ⟨.inr rfl, _, [.agg [tv, .sl r 0 p.funcs.list.length p.funcs.list.length 2 fx], .ptr m.nx 0, .int .i64 0], rfl, by simp [resK, get_put], ?_⟩
   dsimp only [q0h]
   exact fin _ _ (by simp [hsp, hpl]) rfl trivial
  ·try refine TW.seq ?_
   refine TW.drawH hP [] (fun e he => by cases he) [0, 0, 2, 0, 8, 0, 56, 120, 248, 510, 1022, 2046, 4094, 0, 8192, 0, 57344, 122880, 253952, 524286, 1048574, 1, 4194303, 8388607] (by kernel_rfl) (by kernel_rfl) (by simp [w0, w1, w2, hL, q0L, q1h, hx, hy, hm0, hav, hav2, hpa, d1, d3, d6, decide_eq_true hn, (show ¬ m.nx ≤ h0.nx by omega), (show ¬ m.nx ≤ h0.nx + 1 by omega), (show ¬ m.nx ≤ k.nx by omega), (show ¬ m.nx ≤ r by omega), (show ¬ h0.nx + 1 = r by omega), (show ¬ h0.nx + 1 = k.nx by omega), (show ¬ m.nx = h0.nx + 1 by omega), (show ¬ m.nx = h0.nx by omega), (show ¬ m.nx = k.nx by omega), (show ¬ m.nx = r by omega), oneD, fpAt, fpOf, q0v, ldOf, q0T, q0m, FP.clash, FP.hard, FP.soft, overlap, inR, q0A, q1T, Nat.testBit] <;> rfl) ?_
   repeat' (refine q1A (fun hb => ?_) (fun hb => ?_) <;> (try simp only [Bool.not_eq_eq_eq_not, Bool.not_true, Bool.not_false] at hb) <;> refine q4H (by simp [hb, hX, w0, w1, w2, hL, hL0, q0L, q1h, hx, hy, hm0, hav, hav2, hpa, d1, d2, d3, d4, d5, d6, decide_eq_true hn, decide_eq_true hml, (show ¬ m.nx ≤ h0.nx by omega), (show ¬ m.nx ≤ h0.nx + 1 by omega), (show ¬ m.nx ≤ k.nx by omega), (show ¬ m.nx ≤ r by omega), (show ¬ r = h0.nx by omega), (show ¬ h0.nx = r by omega), (show ¬ r = h0.nx + 1 by omega), (show ¬ h0.nx + 1 = r by omega), (show ¬ r = k.nx by omega), (show ¬ k.nx = r by omega), (show ¬ h0.nx + 1 = k.nx by omega), (show ¬ k.nx = h0.nx + 1 by omega), (show ¬ k.nx = h0.nx by omega), (show ¬ h0.nx = k.nx by omega), (show ¬ m.nx = h0.nx + 1 by omega), (show ¬ h0.nx + 1 = m.nx by omega), (show ¬ m.nx = h0.nx by omega), (show ¬ m.nx = k.nx by omega), (show ¬ m.nx = r by omega), oneD, fpAt, fpOf, q0v, ldOf, q0T, q0m, FP.clash, FP.hard, FP.soft, overlap, inR, q0A, q1T, Nat.testBit, show ¬ m.nx + 1 ≤ m.nx by omega, show ¬ m.nx + 2 ≤ m.nx by omega, show ¬ m.nx + 2 ≤ m.nx + 1 by omega, show ¬ m.nx + 3 ≤ m.nx by omega, show ¬ m.nx + 3 ≤ m.nx + 1 by omega, show ¬ m.nx + 3 ≤ m.nx + 2 by omega] <;> rfl) ?_)
   all_goals dsimp only [okD, q0a]
   refine TW.ret ⟨.inr rfl, _, [.agg [tv, .sl r 0 p.funcs.list.length p.funcs.list.length 2 fx], .ptr m.nx 0, .int .i64 0], rfl, by simp [resK, get_put], ?_⟩
   dsimp only [q0h]
   exact fin _ _ (by simp [hsp]) rfl trivial
 ·repeat' first | refine TW.seq ?_ | refine TW.condT hP rfl ?_ | (refine TW.regG hP (by simp [hg0, hg1, ha] <;> rfl) ?_; dsimp only [goK]) | (refine TO.scall hP I_shape_Regs (e1) ?_ rfl rfl rfl rfl ?_; (focus (simp; done)); refine TO.runsG hP (by simp <;> rfl) ?_; dsimp only [goK]) | simp only [q0a]
  refine TW.ret ⟨.inr rfl, _, [.agg [.nilsl, .nilsl], .nilptr, .int .i64 (q0K p f)], rfl, by simp [resK, get_put], ?_⟩
  exact ⟨hw0.put (by omega) _, .inl ⟨ha, rfl⟩⟩
theorem Index_pure (hP : POk Tryz.prog F gl K) (l : Sl Int) (v : Int) (hlen : l.list.length < 1000000) : q0y Tryz.prog F q3b [l.av cI, .int .i64 v] (.int .i64 (idxP (fun y => decide (v = y)) l.list)) := by
 refine CallsT.pure (O := fun u _ => u = .int .i64 (idxP (fun y => decide (v = y)) l.list)) (k := 1) (by simp) ?_ (fun u g e => by subst e; rfl)
 refine CallsT.body hP q0e q8C rfl rfl ?_
 repeat' first | refine TW.seq ?_ | refine TW.block ?_ | (refine TW.regG hP (by simp <;> rfl) ?_; dsimp only [goK])
 refine TW.loopL (fun i : Nat => [(0, l.av cI), (1, .int .i64 v), (7, .int .i64 l.list.length), (8, .int .i64 i)]) (fun i _ => i ≤ l.list.length ∧ ∀ j (hj : j < i) (hl : j < l.list.length), ¬ v = l.list[j]) (fun i => l.list.length - i) (0) ?_ ?_ ?_
 focus (repeat' first | exact q0c | refine q0b (by simp) ?_)
 ·exact ⟨Nat.zero_le _, fun j hj => absurd hj (Nat.not_lt_zero _)⟩
 rintro i g ⟨hi, hno⟩
 repeat' first | refine TW.seq ?_ | (refine TW.regG hP (by simp <;> rfl) ?_; dsimp only [goK])
 refine TW.cond hP rfl (fun hc => TW.skip ?_) (fun hc => TW.exit ?_)
 ·simp at hc
  have hx : l.list[i]? = some l.list[i] := List.getElem?_eq_getElem hc
  have hav := q0z (e := cI) (show 0 < l.list.length by omega)
  dsimp only [q0a]
  by_cases hv : v = l.list[i]
  ·repeat' first | refine TW.seq ?_ | refine TW.block ?_ | refine TW.condT hP rfl ?_ | (refine TW.regG hP (by simp [hav, hc, hv] <;> rfl) ?_; dsimp only [goK]) | simp only [q0a] | (refine TW.ret ⟨.inr rfl, _, _, rfl, rfl, ?_⟩; dsimp only [q0h])
   rw [idxP, List.findIdx?_eq_some_iff_getElem.2 ⟨hc, by simpa using hv, fun j hj => by simpa using hno j hj (by omega)⟩]
  ·repeat' first | refine TW.seq ?_ | refine TW.block ?_ | refine TW.skip ?_ | refine TW.condF hP rfl ?_ | (refine TW.regG hP (by simp [hav, hc, hv] <;> rfl) ?_; dsimp only [goK]) | simp only [q0d]
   refine ⟨i + 1, by omega, trivial, ?_, by omega, fun j hj hl => ?_⟩
   ·repeat' first | exact q0c | refine q0b (by simp [hav, w64s (show i < 9000000000000000000 by omega)]) ?_
   ·by_cases h : j = i
    ·subst h; exact hv
    ·exact hno j (by omega) hl
 ·simp at hc
  dsimp only [q0a]
  repeat' first | refine TW.seq ?_ | (refine TW.regG hP (by simp <;> rfl) ?_; dsimp only [goK]) | simp only [q0a] | (refine TW.ret ⟨.inr rfl, _, _, rfl, rfl, ?_⟩; dsimp only [q0h])
  rw [idxP, List.findIdx?_eq_none_iff.2 fun x hx => by
   obtain ⟨j, hj, rfl⟩ := List.getElem_of_mem hx
   simpa using hno j (by omega) hj]
theorem q6m (hP : POk Tryz.prog F gl K) (l : Sl Int) (v : Int) (hlen : l.list.length < 1000000) : q0y Tryz.prog F q2D [l.av cI, .int .i64 v] (.bool (l.list.any fun y => decide (v = y))) := by
 have e1 := Index_pure hP l v hlen
 refine CallsT.pure (O := fun u _ => u = .bool (l.list.any fun y => decide (v = y))) (k := 1) (by simp) ?_ (fun u g e => by subst e; rfl)
 refine CallsT.body hP q0e q7m rfl rfl ?_
 repeat' first | refine TW.seq ?_ | (refine TW.regG hP (by simp <;> rfl) ?_; dsimp only [goK]) | (refine TO.scall hP q8x (e1) ?_ rfl rfl rfl rfl ?_; (focus (simp; done)); refine TO.runsG hP (by simp <;> rfl) ?_; dsimp only [goK]) | simp only [q0a] | (refine TW.ret ⟨.inr rfl, _, _, rfl, rfl, ?_⟩; dsimp only [q0h])
 rw [← q9A]
structure BlkAt (bv : AV) (nb k n : Nat) (g : Hp) (rb : Nat) (fb : Bool) (rowsb : List (List AV)) (u : AV) (e : List AV) : Prop where
 bv : bv = .sl rb 0 nb nb 5 fb
 get : g.get rb = some (.cells q0s rowsb.flatten)
 rows : q3l 5 rowsb
 row : rowsb[k]? = some (u :: e)
 len : lenA u = some n
 str : ∀ s, u ≠ .str s
 sl : ∀ j, j < n → ∃ qi fi, u = .sl qi 0 n n 7 fi
theorem BlkO.at {bv : AV} {bl : List LBlock} {g : Hp} {Sb : Nat → Prop} {k : Nat} {b : LBlock} (H : SlO AnyF (BlkO AnyF) 5 q0s bv bl g Sb) (hb : bl[k]? = some b) : ∃ rb fb rowsb u e, BlkAt bv bl.length k b.ins.list.length g rb fb rowsb u e := by
 obtain ⟨fx, r, rows, row, Si, hv, hrS, hgr, hrows, hri, hrl, hSi, ⟨u, rfl, hI⟩, _⟩ := H.at BlkO.locl hb
 obtain ⟨y1, y2, _, _⟩ := hI.len
 refine ⟨r, fx, rows, u, b.ed.cells, hv, hgr, hrows, hri, y1, y2, fun j hj => ?_⟩
 obtain ⟨a, ha⟩ := q0g hj
 obtain ⟨fi, q, _, _, _, hu, _⟩ := hI.at InsO.locl ha
 exact ⟨q, fi, hu⟩
set_option maxHeartbeats 2000000 in
theorem each_mem (hP : POk Tryz.prog F gl K) (q : Nat) (params : Int) (bv : AV) (bl : List LBlock) (f : FuncId) (cap : List AV) (hF : IsFn Tryz.prog f) (I : Nat → Nat → Hp → Prop) (hp0 : 0 ≤ params) (hp1 : params + q0q bl < 1000000000) (hnb : bl.length < 1000000)
  (hobj : ∀ k j g, I k j g → g.get q = some (.cells 69 [.int .i64 params, bv]) ∧ lenA bv = some bl.length ∧ ∀ s, bv ≠ .str s)
  (hblk : ∀ k j g b, I k j g → bl[k]? = some b → ∃ rb fb rowsb u e, BlkAt bv bl.length k b.ins.list.length g rb fb rowsb u e)
  (hdo : ∀ k j g b rb fb rowsb e qi fi, I k j g → bl[k]? = some b → j < b.ins.list.length → BlkAt bv bl.length k b.ins.list.length g rb fb rowsb (.sl qi 0 b.ins.list.length b.ins.list.length 7 fi) e → CallsT Tryz.prog F g (fun _ h => I k (j + 1) h) f ([.int .i64 (params + q0q (bl.take k) + j), .ptr qi (j * 7)] ++ cap))
  (hnext : ∀ k b g, bl[k]? = some b → I k b.ins.list.length g → I (k + 1) 0 g) (h : Hp) (h0 : I 0 0 h) :
  CallsT Tryz.prog F h (fun _ g => I bl.length 0 g) q3N [.ptr q 0, .fn (.func f) [] cap] := by
 refine CallsT.body hP q0e q9Q rfl rfl ?_
 obtain ⟨hq, hl1, hl2⟩ := hobj 0 0 h h0
 have hlv := fun h => q3F (C := Ctx.of Tryz.prog gl K) (t := q1D) (h := h) hl1 hl2
 dsimp only [q1D] at hlv
 repeat' first | refine TW.seq ?_ | refine TW.block ?_ | (refine TW.regG hP (by simp [hq, hlv] <;> rfl) ?_; dsimp only [goK])
 refine TW.loopL (fun k : Nat => [(0, .ptr q 0), (1, .fn (.func f) [] cap), (4, .int .i64 (params + q0q (bl.take k))), (15, .int .i64 bl.length), (16, .int .i64 k)]) (fun k g => k ≤ bl.length ∧ I k 0 g) (fun k => bl.length - k) (0) ?_ ?_ ?_
 focus (repeat' first | exact q0c | refine q0b (by simp [q0q]) ?_)
 ·exact ⟨Nat.zero_le _, h0⟩
 rintro k g ⟨hk, hI⟩
 repeat' first | refine TW.seq ?_ | (refine TW.regG hP (by simp <;> rfl) ?_; dsimp only [goK])
 refine TW.cond hP rfl (fun hc => TW.skip ?_) (fun hc => TW.exit ?_)
 ·simp at hc
  have hck := hc
  obtain ⟨b, hb⟩ := q0g hc
  obtain ⟨hq, _, _⟩ := hobj k 0 g hI
  obtain ⟨rb, fb, rowsb, u, e, B⟩ := hblk k 0 g b hI hb
  obtain ⟨hbv, hgr, hrows, hri, hu1, hu2, hu3⟩ := B
  subst hbv
  have hL := fun t => q2i (C := Ctx.of Tryz.prog gl K) (t := t) hgr hrows hri
  have hlu := fun h => q3F (C := Ctx.of Tryz.prog gl K) (t := q3V) (h := h) hu1 hu2
  dsimp only [q3V] at hlu
  have ht := q2X hb
  have hn1 := q0J (bl.take k)
  have hn2 := q3h bl (k + 1)
  dsimp only [q0a]
  repeat' first | refine TW.seq ?_ | refine TW.block ?_ | (refine TW.regG hP (by simp [hq, hL, q0L, q1h, hlu, hc] <;> rfl) ?_; dsimp only [goK])
  refine TW.loopL (fun j : Nat => [(0, .ptr q 0), (1, .fn (.func f) [] cap), (4, .int .i64 (params + q0q (bl.take k) + j)), (5, .int .i64 k), (15, .int .i64 bl.length), (16, .int .i64 k), (27, .int .i64 b.ins.list.length), (28, .int .i64 j)]) (fun j g => j ≤ b.ins.list.length ∧ I k j g) (fun j => b.ins.list.length - j) (0) ?_ ?_ ?_
  focus (repeat' first | exact q0c | refine q0b (by simp) ?_)
  ·exact ⟨Nat.zero_le _, hI⟩
  clear hq hgr hrows hri hu1 hu2 hu3 hL hlu hI
  rintro j g ⟨hj, hI⟩
  repeat' first | refine TW.seq ?_ | (refine TW.regG hP (by simp <;> rfl) ?_; dsimp only [goK])
  refine TW.cond hP rfl (fun hc => TW.skip ?_) (fun hc => TW.exit ?_)
  ·simp at hc
   obtain ⟨hq, _, _⟩ := hobj k j g hI
   obtain ⟨rb', fb', rowsb', u', e', B⟩ := hblk k j g b hI hb
   obtain ⟨qi, fi, rfl⟩ := B.sl j hc
   have hd := hdo k j g b rb' fb' rowsb' e' qi fi hI hb hc B
   obtain ⟨hbv, hgr, hrows, hri, hu1, hu2, hu3⟩ := B
   cases hbv
   have hL := fun t => q2i (C := Ctx.of Tryz.prog gl K) (t := t) hgr hrows hri
   dsimp only [q0a]
   repeat' first | refine TW.seq ?_ | refine TW.block ?_ | (refine TW.regG hP (by simp [hq, hL, q0L, q1h, hck, hc] <;> rfl) ?_; dsimp only [goK])
   refine TO.ccall hP hF hd (by simp) rfl rfl rfl rfl (fun v g' hI' => ?_)
   refine TO.runsG hP (by simp <;> rfl) ?_
   try dsimp only [goK]
   repeat' first | (refine TW.regG hP (by simp <;> rfl) ?_; dsimp only [goK]) | simp only [q0d]
   refine ⟨j + 1, by omega, trivial, ?_, by omega, hI'⟩
   repeat' first | exact q0c | refine q0b (by simp [w64s (show j < 9000000000000000000 by omega), w64e (n := params + (q0q (bl.take k) + ((j : Int) + 1))) (by omega) (by omega), Int.add_assoc]) ?_
  ·simp at hc
   have hj2 : j = b.ins.list.length := by omega
   subst hj2
   dsimp only [q0a]
   repeat' first | (refine TW.regG hP (by simp <;> rfl) ?_; dsimp only [goK]) | simp only [q0d]
   refine ⟨k + 1, by omega, trivial, ?_, by omega, hnext k b g hb hI⟩
   repeat' first | exact q0c | refine q0b (by simp [w64s (show k < 9000000000000000000 by omega), ht, Int.add_assoc]) ?_
 ·simp at hc
  have hk2 : k = bl.length := by omega
  subst hk2
  dsimp only [q0a]
  repeat' first | simp only [q0f, q0d, ↓reduceIte]
  exact ⟨.inl rfl, g, [], rfl, rfl, hI⟩
theorem many1_mem (hP : POk Tryz.prog F gl K) (c : Nat) (n r : Int) (p : AV) (g : Hp) (hc : g.get c = some (.cells 3 [.int .i64 n])) (h0 : 0 ≤ n) (h1 : n < 2000000000) :
  CallsT Tryz.prog F g (fun _ h => h.nx = g.nx ∧ h.get c = some (.cells 3 [.int .i64 (n + 1)]) ∧ ∀ s, s ≠ c → h.get s = g.get s) q2p [.int .i64 r, p, .ptr c 0] := by
 refine CallsT.body hP q0e q8B rfl rfl ?_
 repeat' first | (refine TW.regG hP (by simp [hc, w64e (n := n + 1) (by omega) (by omega)] <;> rfl) ?_; dsimp only [goK])
 exact ⟨.inl rfl, _, [], rfl, rfl, by rw [nx_put], by rw [get_put, if_pos rfl], fun s hs => by rw [get_put, if_neg (Ne.symm hs)]⟩
theorem many_mem (hP : POk Tryz.prog F gl K) (q : Nat) (params : Int) (bv : AV) (bl : List LBlock) (Sb : Nat → Prop) (hp0 : 0 ≤ params) (hp1 : params + q0q bl < 1000000000) (hnb : bl.length < 1000000) (h : Hp)
  (hq : h.get q = some (.cells 69 [.int .i64 params, bv])) (hqn : q < h.nx) (hB : SlO AnyF (BlkO AnyF) 5 q0s bv bl h Sb) (hSb : ∀ s, Sb s → s < h.nx) :
  CallsT Tryz.prog F h (fun v g => Wid h g ∧ v = .int .i64 (params + q0q bl)) q3M [.ptr q 0] := by
 refine CallsT.body hP q0e q9P rfl rfl ?_
 obtain ⟨z1, z2, z3, z4⟩ := hB.len
 refine TW.seq (TW.regG hP (by simp <;> rfl) ?_)
 dsimp only [goK, q0a, q0f, q0d]
 refine TW.seq (TW.regG hP (by simp [hq] <;> rfl) ?_)
 dsimp only [goK, q0a, q0f, q0d]
 refine TW.gen (fun g => g.get h.nx = some (.cells 3 [.int .i64 params]) ∧ Wid h g ∧ h.nx < g.nx) ⟨by simp, ((Wid.refl h).new _).put (Nat.le_refl _) _, by simp⟩ fun g hg => ?_
 obtain ⟨g1, hw, hn⟩ := hg
 have hmono := q3h bl
 refine TW.seq (TW.regG hP (by simp <;> rfl) ?_)
 dsimp only [goK, q0a, q0f, q0d]
 refine TO.ccall hP q3R (each_mem hP q params bv bl q2p [.ptr h.nx 0] q8w (fun k j m => Wid h m ∧ h.nx < m.nx ∧ m.get h.nx = some (.cells 3 [.int .i64 (params + q0q (bl.take k) + j)])) hp0 hp1 hnb ?_ ?_ ?_ ?_ g ⟨hw, hn, by simpa [q0q] using g1⟩) (by simp) rfl rfl rfl rfl (fun v m hm => ?_)
 ·rintro k j m ⟨w, _, _⟩
  exact ⟨(w.get q hqn).trans hq, z1, z2⟩
 ·rintro k j m b ⟨w, _, _⟩ hb
  exact BlkO.at (SlO.locl BlkO.locl _ _ _ _ hB (fun _ h => h) (q5P w hSb)) hb
 ·rintro k j m b rb fb rowsb e qi fi ⟨w, hn', hc⟩ hb hj B
  have ht := q2X hb
  have h1 := q0J (bl.take k)
  have h2 := q3h bl (k + 1)
  refine (many1_mem hP h.nx _ _ _ m hc (by omega) (by omega)).mono fun v m' ⟨q1, q2, q3⟩ => ⟨⟨by rw [q1]; exact w.nx, fun s hs => (q3 s (by omega)).trans (w.get s hs)⟩, by omega, by rw [q2, Int.add_assoc]; rfl⟩
 ·rintro k b m hb ⟨w, hn', hc⟩
  refine ⟨w, hn', ?_⟩
  rw [q2X hb]
  simpa [Int.add_assoc] using hc
 ·obtain ⟨w, _, hc⟩ := hm
  rw [List.take_of_length_le (Nat.le_refl _)] at hc
  refine TO.runsG hP (by simp <;> rfl) ?_
  try dsimp only [goK]
  repeat' first | refine TW.seq ?_ | (refine TW.regG hP (by simp [hc] <;> rfl) ?_; dsimp only [goK]) | simp only [q0a] | (refine TW.ret ⟨.inr rfl, _, _, rfl, rfl, ?_⟩; dsimp only [q0h])
  exact ⟨w, trivial⟩
end Go.Ax
noncomputable section
namespace Go.Ax
section
variable {P : Program} {F : Nat → Option Obj} {gl : Nat → AV} {K : Knob}
inductive RenS (σ : Nat → Nat) (U : Nat → Prop) : AV → AV → Prop
 | bare {v : AV} (h : scal v = true) : RenS σ U v v
 | emp : RenS σ U (.isl []) (.isl [])
 | sl {r o len cap es : Nat} {x x' : Bool} (h : U r) (hx : x = true → x' = true) : RenS σ U (.sl r o len cap es x) (.sl (σ r) o len cap es x')
 | nil0 : RenS σ U (.isl []) .nilsl
 | sl0 {r o cap es : Nat} {x : Bool} : RenS σ U (.isl []) (.sl r o 0 cap es x)
structure RenSL (σ : Nat → Nat) (U : Nat → Prop) (l1 l2 : List AV) : Prop where
 len : l1.length = l2.length
 at' : ∀ (i : Nat) (x y : AV), l1[i]? = some x → l2[i]? = some y → RenS σ U x y
theorem VRel.renS {m1 m2 : Loc} {σ : Nat → Nat} {U : Nat → Prop} (hU : ∀ r, U r → m1 r = m2 (σ r)) {x y : AV} (H : RenS σ U x y) {cv : Value} (hv : VRel P F m2 y cv) : VRel P F m1 x cv := by
  cases H with
  | bare h => exact hv.scal h
  | emp => obtain ⟨a, c, rfl⟩ := hv.isl0_inv; exact .isl0 _ _
  | sl h hx0 =>
    cases hv with
    | sl hm hl hc hx hz => exact .sl ((hU _ h).trans hm) hl hc (fun e => hx (hx0 e)) hz
  | nil0 => cases hv; exact .isl0 none 0
  | sl0 =>
    cases hv with
    | sl hm hl hc hx hz => exact .isl0 _ _
structure IsoS (h : Hp) (v1 : AV) (h1 : Hp) (v2 : AV) (h2 : Hp) (σ : Nat → Nat) (U : Nat → Prop) : Prop where
 val : RenS σ U v1 v2
 dom : ∀ r, U r → h.nx ≤ r ∧ r < h1.nx
 inj : ∀ r s, U r → U s → σ r = σ s → r = s
 obj : ∀ r, U r → ∃ e cs1 cs2, h1.get r = some (.cells e cs1) ∧ h2.get (σ r) = some (.cells e cs2) ∧ RenSL σ U cs1 cs2
theorem Calling.of_lend {h h1 : Hp} {v1 : AV} {f : FuncId} {args fargs : List AV} {O : AV → Hp → Prop} (hc : CallsT P F Hp.e O f fargs) (hfr : mapO (frzV 20 h) args = some fargs) (hw : Wid h h1) (hwf : ∀ r, h1.nx ≤ r → h1.get r = none)
  (hI : ∀ v2 h2, O v2 h2 → ∃ σ U, IsoS h v1 h1 v2 h2 σ U) : Calling P F h h1 v1 f args := by
 intro m w n cargs hR hA hF
 let KK : Nat → Prop := fun b => ∃ r o z, h.get r = some o ∧ o.live = true ∧ m r = some (b, z)
 have dK : ∀ b, Decidable (KK b) := fun b => Classical.propDecidable _
 let fz2 : Nat → Option Obj := fun b => @ite _ (KK b) (dK b) w.heap[b]? (m.fz b)
 have f1 : ∀ b o, m.fz b = some o → fz2 b = some o := fun b o hb => by
  show @ite _ (KK b) (dK b) w.heap[b]? (m.fz b) = some o
  split
  ·exact hR.frz b o (.inr hb)
  ·exact hb
 have f2 : ∀ b o, fz2 b = some o → w.heap[b]? = some o := fun b o hb => by
  have hb : @ite _ (KK b) (dK b) w.heap[b]? (m.fz b) = some o := hb
  split at hb
  ·exact hb
  ·exact hR.frz b o (.inr hb)
 have hA' : LRel P F ⟨fun _ => none, fz2⟩ fargs cargs.toList := by
  refine q9y (fun x v y hv hy => z1m (fz := fz2) hR f1 (fun r o b z ob hg hl hm hb => ?_) 20 x v y hv hy) hA hfr
  show @ite _ (KK b) (dK b) w.heap[b]? (m.fz b) = some ob
  rw [if_pos ⟨r, o, z, hg, hl, hm⟩]; exact hb
 have hR0 : HRel P F ⟨fun _ => none, fz2⟩ Hp.e w := ⟨fun r o b z hg hm => (by cases hm), fun r s o q b y z hg hl hg' hl' hm hm' => (by cases hm), fun r o b z hg hl hm => (by cases hm), fun b o hb => hb.elim (fun hb => hR.frz b o (.inl hb)) (f2 b o), fun r _ => e_get r⟩
 refine (hc ⟨fun _ => none, fz2⟩ w n cargs hR0 hA' (fun r _ => rfl)).mono fun e w' he => ?_
 obtain ⟨v2, h2, hO, hle, cv, m2, rfl, hs, hv⟩ := he
 obtain ⟨σ, U, I⟩ := hI v2 h2 hO
 have none0 : ∀ r o, Hp.e.get r = some o → False := fun r o hg => by rw [e_get] at hg; cases hg
 let m1 : Loc := ⟨fun r => @ite _ (h.nx ≤ r ∧ r < h1.nx) (Classical.propDecidable _) (@ite _ (U r) (Classical.propDecidable _) (m2 (σ r)) none) (m r), m.fz⟩
 have inU : ∀ r, U r → m1 r = m2 (σ r) := fun r hr => by
  show @ite _ _ (Classical.propDecidable _) (@ite _ _ (Classical.propDecidable _) _ _) _ = _
  rw [if_pos (I.dom r hr), if_pos hr]
 have inR : ∀ r c, m1 r = some c → h.nx ≤ r → r < h1.nx → U r ∧ m2 (σ r) = some c := fun r c hm h1' h2' => by
  have hm : @ite _ _ (Classical.propDecidable _) (@ite _ _ (Classical.propDecidable _) _ _) _ = some c := hm
  rw [if_pos ⟨h1', h2'⟩] at hm
  split at hm
  ·rename_i hu; exact ⟨hu, hm⟩
  ·cases hm
 have out : ∀ r, ¬ (h.nx ≤ r ∧ r < h1.nx) → m1 r = m r := fun r hr => by
  show @ite _ _ (Classical.propDecidable _) (@ite _ _ (Classical.propDecidable _) _ _) _ = _
  rw [if_neg hr]
 have live2 : ∀ r c, U r → m2 (σ r) = some c → ∃ e cs, h2.get (σ r) = some (.cells e cs) := fun r c hr _ => by
  obtain ⟨e, cs1, cs2, _, g2, _⟩ := I.obj r hr; exact ⟨e, cs2, g2⟩
 have new2 : ∀ r b z, U r → m2 (σ r) = some (b, z) → w.heap.size ≤ b := fun r b z hr hm => by
  obtain ⟨e, cs, g⟩ := live2 r _ hr hm
  rcases hs.mnew (σ r) b z hm rfl ⟨_, g, rfl⟩ with h' | ⟨s, o, y, hg, _, _⟩
  ·exact h'
  ·exact (none0 _ _ hg).elim
 have part : ∀ r o b z, h1.get r = some o → m1 r = some (b, z) → (U r ∧ m2 (σ r) = some (b, z)) ∨ (r < h.nx ∧ h.get r = some o ∧ m r = some (b, z)) := fun r o b z hg hm => by
  by_cases hlt : r < h.nx
  ·right
   rw [out r (by omega)] at hm
   rw [hw.get r hlt] at hg
   exact ⟨hlt, hg, hm⟩
  ·left
   by_cases hlt2 : r < h1.nx
   ·exact inR r _ hm (by omega) hlt2
   ·rw [hwf r (by omega)] at hg; cases hg
 have hlm : Loc.le m m1 := ⟨fun r c hm => by
  by_cases hr : h.nx ≤ r ∧ r < h1.nx
  ·have := hF r hr.1 hr.2; rw [this] at hm; cases hm
  ·rw [out r hr]; exact hm, fun _ _ h => h⟩
 have same : ∀ b, b < w.heap.size → w'.heap[b]? = w.heap[b]? := fun b hb => hs.old b hb fun r o z hg => (none0 _ _ hg).elim
 have tr : ∀ {x y : AV} {cv : Value}, RenS σ U x y → VRel P F m2 y cv → VRel P F m1 x cv := fun H hv => VRel.renS inU H hv
 refine ⟨cv, m1, rfl, ⟨hlm, fun r c h1' h2' => ?_, ⟨fun r o b z hg hm => ?_, fun r s o q b y z hg hl hg' hl' hm hm' => ?_, fun r o b z hg hl hm => ?_, fun b o hb => ?_, hwf⟩, hs.same, hs.size, fun b hb _ => same b hb, hw.nx, fun r o' c hg hl hm => ?_, fun r b z h1' h2' hlv => ?_, fun b o hb => ?_⟩, tr I.val hv⟩
 ·by_cases hr : h.nx ≤ r ∧ r < h1.nx
  ·exact hr
  ·rw [out r hr, h2'] at h1'; cases h1'
 ·rcases part r o b z hg hm with ⟨hu, hm2⟩ | ⟨hlt, hg0, hm0⟩
  ·obtain ⟨e, cs1, cs2, g1, g2, g3⟩ := I.obj r hu
   rw [g1] at hg; cases hg
   obtain ⟨arr, a1, a2, a3, a4⟩ := hs.rel.obj (σ r) _ b z g2 hm2
   refine ⟨arr, a1, a2, by rw [g3.len]; exact a3, fun i x y hx hy => ?_⟩
   obtain ⟨u, hu'⟩ : ∃ u, cs2[i]? = some u := ⟨cs2[i]'(by rw [← g3.len]; exact (List.getElem?_eq_some_iff.1 hx).1), List.getElem?_eq_getElem _⟩
   exact tr (g3.at' i x u hx hu') (a4 i u y hu' hy)
  ·by_cases hl : o.live = true
   ·have := hR.obj r o b z hg0 hm0
    rw [same b (hR.lt hg0 hl hm0)]
    exact this.mono hlm
   ·cases o <;> first | trivial
 ·rcases part r o b y hg hm with ⟨hu, hm2⟩ | ⟨hlt, hg0, hm0⟩ <;> rcases part s q b z hg' hm' with ⟨hu', hm2'⟩ | ⟨hlt', hg0', hm0'⟩
  ·obtain ⟨e, cs, g⟩ := live2 r _ hu hm2
   obtain ⟨e', cs', g'⟩ := live2 s _ hu' hm2'
   exact I.inj r s hu hu' (hs.rel.inj _ _ _ _ b y z g rfl g' rfl hm2 hm2')
  ·have := new2 r b y hu hm2
   have := hR.lt hg0' hl' hm0'
   omega
  ·have := new2 s b z hu' hm2'
   have := hR.lt hg0 hl hm0
   omega
  ·exact hR.inj r s o q b y z hg0 hl hg0' hl' hm0 hm0'
 ·rcases part r o b z hg hm with ⟨hu, hm2⟩ | ⟨hlt, hg0, hm0⟩
  ·obtain ⟨e, cs, g⟩ := live2 r _ hu hm2
   obtain ⟨q1, q2⟩ := hs.rel.out _ _ b z g rfl hm2
   refine ⟨q1, ?_⟩
   show m.fz b = none
   cases hf : m.fz b with
   | none => rfl
   | some x => have := hs.le.frz b x (f1 b x hf); rw [q2] at this; cases this
  ·exact hR.out r o b z hg0 hl hm0
 ·have hb : Fz F m b o := hb
  rw [same b (hR.flt hb)]
  exact hR.frz b o hb
 ·by_cases hlt : r < h.nx
  ·rw [hw.get r hlt] at hg; exact ⟨o', hg, hl⟩
  ·by_cases hlt2 : r < h1.nx
   ·rw [hF r (by omega) hlt2] at hm; cases hm
   ·rw [hwf r (by omega)] at hg; cases hg
 ·obtain ⟨o, hg, hl⟩ := hlv
  rcases part r o b z hg h1' with ⟨hu, hm2⟩ | ⟨hlt, hg0, hm0⟩
  ·exact .inl (new2 r b z hu hm2)
  ·rw [h2'] at hm0; cases hm0
 ·exact .inl hb
end
end Go.Ax
set_option maxRecDepth 20000
noncomputable section
namespace Go.Ax
open Go.Proofs
attribute [local irreducible] TW TO CallsT q0y
variable {F : Nat → Option Obj} {gl : Nat → AV} {K : Knob} {S S' : Nat → Prop} {X : Type}
theorem own_intO {b : Nat} {g : Hp} {v : AV} {l : List Int} (H : Own 1 q0C b g v (l.map cI)) : ∃ S, IntO AnyF v l g S := by
 have e : ∀ l : List Int, (l.map cI).flatten = l.map (.int .i64) := fun l => by induction l with | nil => rfl | cons a l ih => simp [ih]
 rcases H with ⟨rfl, h⟩ | ⟨hn, r, h1, h2, rfl, h3⟩
 ·have : l = [] := by simpa using h
  exact ⟨fun _ => False, .inl ⟨this, .inr ⟨trivial, .inl rfl⟩⟩⟩
 ·rw [e] at h3
  exact ⟨fun s => s = r, .inr ⟨r, false, trivial, by simpa using hn, by simp, rfl, h3⟩⟩
theorem IntO.lend {P : Program} {l : List Int} {f : FuncId} {args fargs : List AV} (hc : CallsT P F Hp.e (fun v g => ∃ S, IntO AnyF v l g S) f fargs) (h : Hp) (hfr : mapO (frzV 20 h) args = some fargs) (hlo : h.lo = h.nx) (hw : ∀ r, h.nx ≤ r → h.get r = none) :
  ∃ v h1 S, IntO OffF v l h1 S ∧ Wid h h1 ∧ (∀ r, h1.nx ≤ r → h1.get r = none) ∧ (∀ s, S s → h.nx ≤ s ∧ s < h1.nx) ∧ HpLe h h1 ∧ Calling P F h h1 v f args ∧ h1.lo = h.nx ∧ h.nx < h1.nx := by
 obtain ⟨v, h1, S, q1, q2, q3, q4⟩ := IntO.ex l h hw
 have hw1 : Wid h (h1.at h.nx) := ⟨Nat.le_succ_of_le q2.nx, fun r hr => q2.get r hr⟩
 have hwf : ∀ r, (h1.at h.nx).nx ≤ r → (h1.at h.nx).get r = none := fun r hr => q3 r (Nat.le_of_succ_le hr)
 refine ⟨v, h1.at h.nx, S, IntO.locl _ _ _ _ q1 (fun _ h => h) (fun _ _ => rfl), hw1, hwf, fun s hs => ⟨(q4 s hs).1, Nat.lt_succ_of_lt (q4 s hs).2⟩, ⟨hw1.nx, Nat.le_of_eq hlo.symm, fun r h1 _ => hw1.get r h1, fun _ => hwf⟩, .of_lend hc hfr hw1 hwf fun v2 h2 ⟨S2, hB⟩ => ?_, rfl, Nat.lt_succ_of_le q2.nx⟩
 rcases q1 with ⟨rfl, H1⟩ | ⟨r, x, h0, hn, rfl, a3, a4⟩ <;> rcases hB with ⟨e2, H2⟩ | ⟨r', x', h0', hn', rfl, b3, b4⟩
 ·refine ⟨id, fun _ => False, ?_, fun _ h => h.elim, fun _ _ h => h.elim, fun _ h => h.elim⟩
  rw [H1.off]
  rcases H2 with rfl | ⟨_, rfl | ⟨r, o, cap, es, x, rfl⟩⟩
  ·exact .emp
  ·exact .nil0
  ·exact .sl0
 ·exact absurd rfl hn'
 ·exact absurd e2 hn
 ·have h0 : x = false := h0
  subst h0
  refine ⟨fun _ => r', fun s => s = r, .sl (σ := fun _ => r') (r := r) rfl nofun, fun s hs => by rw [hs]; exact ⟨(q4 r a3).1, Nat.lt_succ_of_lt (q4 r a3).2⟩, fun a b ha hb _ => by rw [ha, hb], fun s hs => ⟨q0C, _, _, by rw [hs]; exact a4, b4, rfl, fun i x y hx hy => ?_⟩⟩
  rw [hx] at hy
  cases hy
  rw [List.getElem?_map] at hx
  cases hl : l[i]? with
  | none => rw [hl] at hx; cases hx
  | some n => rw [hl] at hx; cases hx; exact .bare rfl
set_option maxHeartbeats 1000000 in
theorem Uses_mem (hP : POk Tryz.prog F gl K) (hG : gl q1n = .iptr [q1s] 0 0) (x : LIns) (h0 : 0 ≤ x.op) (h1 : x.op < 256) (hlen : x.args.list.length < 900000) : CallsT Tryz.prog F Go.Ax.h0 (fun v g => ∃ S, IntO AnyF v (q2f x) g S) q2e [.agg x.cells] := by
  refine CallsT.body hP q0e E_shape_Uses rfl rfl ?_
  have e1 := of_pure hP hG x.op h0 h1
  have hl : (hasS x.op).length = 6 := rfl
  have hc6 : (hasS x.op).all q0P = true := rfl
  refine TW.seq (TW.regG hP (by simp <;> rfl) ?_)
  dsimp only [goK, q0a, q0f, q0d]
  try refine TW.seq ?_
  refine TW.regG hP (by simp <;> rfl) ?_
  dsimp only [goK]
  refine TO.scall hP q9J (e1) (by simp) rfl rfl rfl rfl ?_
  refine TO.runsG hP (by simp [hl, hc6] <;> rfl) ?_
  dsimp only [goK, q0a]
  refine TW.gen (fun g => g.get 0 = some (.cells q0M x.cells) ∧ g.get 1 = some (.cells q3x (hasS x.op)) ∧ 2 ≤ g.nx) ⟨by simp [get_put], by simp [get_put], by simp⟩ fun g hgg => ?_
  obtain ⟨hg, hg1, hnx⟩ := hgg
  dsimp only [q0M, q3x, hasS] at hg hg1
  refine TW.join (fun v : AV => [(1, .ptr 0 0), (2, v), (3, .ptr 1 0)]) (fun v g => g.get 0 = some (.cells q0M x.cells) ∧ g.get 1 = some (.cells q3x (hasS x.op)) ∧ 2 ≤ g.nx ∧ Own 1 q0C 2 g v ((if q2Y x.op = true then [x.a] else []).map cI)) ?_ ?_
  · cases hA : q2Y x.op with
    | true =>
      rw [hA] at hg1
      obtain ⟨v', k', happ, hown', hwb, hnx'⟩ := (Own.nil (es := 1) (eT := q0C) (b := 2) (h := g)).push (t := q0u) (row := [.int .i64 x.a]) (q0Q (gl := gl) (K := K)) (fun c hc => by cases hc) rfl rfl (by simp) hnx
      dsimp only [q0u, q0C] at happ
      repeat' first | refine TW.seq ?_ | refine TW.condT hP rfl ?_ | (refine TW.regG hP (by simp [hg, hg1, happ] <;> rfl) ?_; dsimp only [goK]) | simp only [↓reduceIte]
      refine ⟨v', rfl, ?_, ?_, ?_, by omega, hown'⟩
      · repeat' first | exact q0c | refine q0b (by simp) ?_
      · rw [hwb.get 0 (by omega)]; exact hg
      · rw [hwb.get 1 (by omega), hg1, hasS, hA]
    | false =>
      rw [hA] at hg1
      repeat' first | refine TW.seq ?_ | refine TW.skip ?_ | refine TW.condF hP rfl ?_ | (refine TW.regG hP (by simp [hg1] <;> rfl) ?_; dsimp only [goK]) | simp only [↓reduceIte, reduceCtorEq]
      refine ⟨.nilsl, rfl, ?_, hg, by rw [hg1, hasS, hA], hnx, .nil⟩
      repeat' first | exact q0c | refine q0b (by simp) ?_
  rintro v g ⟨hg, hg1, hnx, hown⟩
  dsimp only [q0M, q0C, q3x, hasS] at hg hg1 hown
  refine TW.join (fun v : AV => [(1, .ptr 0 0), (2, v), (3, .ptr 1 0)]) (fun v g => g.get 0 = some (.cells q0M x.cells) ∧ g.get 1 = some (.cells q3x (hasS x.op)) ∧ 2 ≤ g.nx ∧ Own 1 q0C 2 g v (((if q2Y x.op = true then [x.a] else []) ++ (if two6 x.op = true then [x.b] else [])).map cI)) ?_ ?_
  · cases h2 : two6 x.op with
    | true =>
      rw [h2] at hg1
      obtain ⟨v', k', happ, hown', hwb, hnx'⟩ := hown.push (t := q0u) (row := [.int .i64 x.b]) (q0Q (gl := gl) (K := K)) q1a rfl rfl (by split <;> simp) hnx
      dsimp only [q0u, q0C] at happ
      repeat' first | refine TW.seq ?_ | refine TW.condT hP rfl ?_ | (refine TW.regG hP (by simp [hg, hg1, happ] <;> rfl) ?_; dsimp only [goK]) | simp only [↓reduceIte]
      refine ⟨v', rfl, ?_, ?_, ?_, by omega, ?_⟩
      · repeat' first | exact q0c | refine q0b (by simp) ?_
      · rw [hwb.get 0 (by omega)]; exact hg
      · rw [hwb.get 1 (by omega), hg1, hasS, h2]
      · rw [List.map_append]; exact hown'
    | false =>
      rw [h2] at hg1
      repeat' first | refine TW.seq ?_ | refine TW.skip ?_ | refine TW.condF hP rfl ?_ | (refine TW.regG hP (by simp [hg1] <;> rfl) ?_; dsimp only [goK]) | simp only [↓reduceIte, reduceCtorEq]
      refine ⟨v, rfl, ?_, hg, by rw [hg1, hasS, h2], hnx, by simpa using hown⟩
      repeat' first | exact q0c | refine q0b (by simp) ?_
  rintro v g ⟨hg, hg1, hnx, hown⟩
  dsimp only [q0M, q0C, q3x, hasS] at hg hg1 hown
  refine TW.join (fun v : AV => [(1, .ptr 0 0), (2, v), (3, .ptr 1 0)]) (fun v g => Own 1 q0C 2 g v ((q2f x).map cI)) ?_ ?_
  · cases h2 : q1L x.op with
    | true =>
      rw [h2] at hg1
      obtain ⟨v', k', happ, hown', hwb⟩ := Own.more (x := x.args.av cI) (rows' := x.args.list.map cI) (q0Q (gl := gl) (K := K)) q3W hown q1a (lenA_ints _) rfl (src_ints _) q1a q6x (by simp only [List.length_map, List.length_append]; (repeat' split) <;> simp <;> omega) hnx
      dsimp only [q0u, q0C] at happ
      repeat' first | refine TW.seq ?_ | refine TW.condT hP rfl ?_ | (refine TW.regG hP (by simp [hg, hg1, happ] <;> rfl) ?_; dsimp only [goK])
      refine ⟨v', rfl, ?_, ?_⟩
      · repeat' first | exact q0c | refine q0b (by simp) ?_
      · rw [← List.map_append] at hown'; simpa [q2f, h2] using hown'
    | false =>
      rw [h2] at hg1
      repeat' first | refine TW.seq ?_ | refine TW.skip ?_ | refine TW.condF hP rfl ?_ | (refine TW.regG hP (by simp [hg1] <;> rfl) ?_; dsimp only [goK])
      refine ⟨v, rfl, ?_, by simpa [q2f, h2] using hown⟩
      repeat' first | exact q0c | refine q0b (by simp) ?_
  rintro v g hown
  repeat' first | refine TW.seq ?_ | (refine TW.regG hP (by simp <;> rfl) ?_; dsimp only [goK]) | simp only [q0a] | (refine TW.ret ⟨.inr rfl, _, _, rfl, rfl, ?_⟩; dsimp only [q0h])
  exact own_intO hown
theorem IntO.frz {v : AV} {l : List Int} {h : Hp} (H : IntO OffF v l h S) (k : Nat) : frzV (k + 2) h v = some ((Sl.mk l).av cI) := by
 rcases H with ⟨rfl, H⟩ | ⟨r, x, _, hn, rfl, h3, h4⟩
 ·rw [H.off]; rfl
 ·show (match h.get r with
   | some (.cells _ cs) => bif Nat.ble (Nat.add 0 (Nat.mul l.length 1)) cs.length then
     (match mapO (mapO (frzV (k + 1) h)) (chunks 1 l.length (cs.drop 0)) with | some l => some (AV.isl l) | none => none) else none
   | _ => none) = _
  rw [h4]
  dsimp only
  rw [List.drop_zero, q7V, z1l (k := k)]
  have : Nat.ble (Nat.add 0 (Nat.mul l.length 1)) (l.map (AV.int .i64)).length = true := Nat.ble_eq_true_of_le (by simp)
  rw [this]; rfl
def q3g (x : LIns) : LIns := { x with args := .mk x.args.list, frm := .mk x.frm.list }
theorem InsO.frz {x : LIns} {row : List AV} {h : Hp} (H : InsO OffF x row h S) (k : Nat) : frzV (k + 3) h (.agg row) = some (.agg (q3g x).cells) := by
 obtain ⟨va, vf, Sa, Sf, rfl, ha, hf, _⟩ := H
 have e1 := ha.frz k
 have e2 := hf.frz k
 rw [frzV]
 simp only [mapO, e1, e2]
 rfl
theorem uses_asRead (x : LIns) : q2f (q3g x) = q2f x := rfl
def ahead (l : List Int) (r : Int) : Int := ((l.filter fun n => decide (n < r)).length : Int)
theorem ahead_take {l : List Int} {i : Nat} {n r : Int} (h : l[i]? = some n) : ahead (l.take (i + 1)) r = ahead (l.take i) r + if n < r then 1 else 0 := by
 obtain ⟨h1, rfl⟩ := List.getElem?_eq_some_iff.1 h
 unfold ahead
 rw [List.take_succ_eq_append_getElem h1, List.filter_append, List.length_append]
 by_cases hn : l[i] < r <;> simp [hn]
theorem ahead_le (l : List Int) (r : Int) : 0 ≤ ahead l r ∧ ahead l r ≤ l.length := by
 unfold ahead
 have := List.length_filter_le (fun n => decide (n < r)) l
 omega
theorem dropA_mem (hP : POk Tryz.prog F gl K) (c d q : Nat) (params most r : Int) (bv : AV) (g : Hp) (hc : g.get c = some (.cells 58 [.ptr q 0])) (hd : g.get d = some (.cells 3 [.int .i64 most])) (hq : g.get q = some (.cells 69 [.int .i64 params, bv])) :
  CallsT Tryz.prog F g (fun v h => h = g ∧ v = .bool (decide (r < params) || decide (most ≤ r))) q6j [.int .i64 r, .ptr c 0, .ptr d 0] := by
 refine CallsT.body hP q0e E_tidy_Drop_1 rfl rfl ?_
 by_cases h : r < params
 ·repeat' first | refine TW.seq ?_ | (refine TW.regG hP (by simp [hc, hq, h] <;> rfl) ?_; dsimp only [goK]) | simp only [q0a] | (refine TW.ret ⟨.inr rfl, _, _, rfl, rfl, ?_⟩; dsimp only [q0h])
  simp [h]
 ·repeat' first | refine TW.seq ?_ | (refine TW.regG hP (by simp [hc, hd, hq, h] <;> rfl) ?_; dsimp only [goK]) | simp only [q0a] | (refine TW.ret ⟨.inr rfl, _, _, rfl, rfl, ?_⟩; dsimp only [q0h])
  simp [h]
theorem Ends_mem (hP : POk Tryz.prog F gl K) (x : LEnd) (h : Hp) : CallsT Tryz.prog F h (fun v g => Wid h g ∧ ∃ S, IntO AnyF v (q2g x) g S) q2w [.agg x.cells] := by
 refine CallsT.body hP q0e E_shape_Ends rfl rfl ?_
 by_cases hk : x.kind = 2 ∨ x.kind = 3
 ·have he : q2g x = [x.a] := by simp only [q2g, if_pos hk]
  rw [he]
  rcases hk with hk | hk
  ·repeat' first | refine TW.seq ?_ | refine TW.condT hP rfl ?_ | (refine TW.regG hP (by simp [hk] <;> rfl) ?_; dsimp only [goK]) | simp only [q0a] | (refine TW.ret ⟨.inr rfl, _, _, rfl, rfl, ?_⟩; dsimp only [q0h])
   all_goals first | exact ⟨((Wid.refl h).new _).new _, fun s => s = h.nx + 1, .inr ⟨h.nx + 1, true, trivial, nofun, rfl, rfl, by simp⟩⟩
  ·repeat' first | refine TW.seq ?_ | refine TW.condT hP rfl ?_ | (refine TW.regG hP (by simp [hk] <;> rfl) ?_; dsimp only [goK]) | simp only [q0a] | (refine TW.ret ⟨.inr rfl, _, _, rfl, rfl, ?_⟩; dsimp only [q0h])
   all_goals first | exact ⟨((Wid.refl h).new _).new _, fun s => s = h.nx + 1, .inr ⟨h.nx + 1, true, trivial, nofun, rfl, rfl, by simp⟩⟩
 ·have he : q2g x = [] := by simp only [q2g, if_neg hk]
  rw [he]
  repeat' first | refine TW.seq ?_ | refine TW.skip ?_ | refine TW.condF hP rfl ?_ | (refine TW.regG hP (by simp [(show ¬ x.kind = 2 by omega), (show ¬ x.kind = 3 by omega)] <;> rfl) ?_; dsimp only [goK]) | simp only [q0a] | (refine TW.ret ⟨.inr rfl, _, _, rfl, rfl, ?_⟩; dsimp only [q0h])
  all_goals first | exact ⟨(Wid.refl h).new _, fun _ => False, .inl ⟨rfl, .inr ⟨trivial, .inl rfl⟩⟩⟩
end Go.Ax
set_option maxRecDepth 20000
noncomputable section
namespace Go.Ax
open Go.Proofs
attribute [local irreducible] TW TO CallsT q0y RoundT
variable {F : Nat → Option Obj} {gl : Nat → AV} {K : Knob} {S S' : Nat → Prop} {X : Type}
theorem values1T (hP : POk Tryz.prog F gl K) {h : Hp} {lp q : Nat} {ls : Sl Int} (hlen : ls.list.length < 1000000) (J : List Int → Hp → Prop) (hq : h.get q = some (.cells 26 [ls.av cI])) (h0 : J [] h)
  (hy : ∀ ks x g, J ks g → ks.length < ls.list.length → RoundT Tryz.prog F g (fun v g' => v = .bool true ∧ J (ks ++ [x]) g') lp [.int .i64 x]) :
  CallsT Tryz.prog F h (fun _ g => J ls.list g) q0F [.fn (.yield lp) [] [], .ptr q 0] := by
 refine CallsT.body hP q0e q7l rfl rfl ?_
 repeat' first | refine TW.seq ?_ | refine TW.block ?_ | (refine TW.regG hP (by simp [hq] <;> rfl) ?_; dsimp only [goK])
 refine TW.loopL (fun i : Nat => [(0, .fn (.yield lp) [] []), (5, ls.av cI), (6, .int .i64 ls.list.length), (7, .int .i64 i)]) (fun i g => i ≤ ls.list.length ∧ J (ls.list.take i) g) (fun i => ls.list.length - i) (0) ?_ ?_ ?_
 focus (repeat' first | exact q0c | refine q0b (by simp) ?_)
 ·exact ⟨Nat.zero_le _, h0⟩
 rintro i g ⟨hi, hJ⟩
 repeat' first | refine TW.seq ?_ | (refine TW.regG hP (by simp <;> rfl) ?_; dsimp only [goK])
 refine TW.cond hP rfl (fun hc => TW.skip ?_) (fun hc => TW.exit ?_)
 ·simp at hc
  obtain ⟨x, hx⟩ := q0g hc
  have hx2 := (List.getElem?_eq_some_iff.1 hx).2
  have hav := q0z (e := cI) (show 0 < ls.list.length by omega)
  dsimp only [q0a]
  repeat' first | refine TW.seq ?_ | refine TW.block ?_ | (refine TW.regG hP (by simp [hav, hx2, hc] <;> rfl) ?_; dsimp only [goK])
  refine TO.ycall hP (by simp) rfl rfl rfl (hy _ x g hJ (by simp; omega)) ?_
  rintro v g2 ⟨rfl, hJ3⟩
  refine TO.runsG hP (by simp <;> rfl) ?_
  try dsimp only [goK]
  repeat' first | refine TW.skip ?_ | refine TW.condF hP rfl ?_ | (refine TW.regG hP (by simp <;> rfl) ?_; dsimp only [goK]) | simp only [q0d]
  refine ⟨i + 1, by omega, trivial, ?_, by omega, ?_⟩
  ·repeat' first | exact q0c | refine q0b (by simp [hav, w64s (show i < 9000000000000000000 by omega)]) ?_
  ·rw [List.take_succ_eq_append_getElem hc, hx2]; exact hJ3
 ·simp at hc
  rw [List.take_of_length_le hc] at hJ
  dsimp only [q0a]
  repeat' first | simp only [q0f, q0d, ↓reduceIte]
  exact ⟨.inl rfl, g, [], rfl, rfl, hJ⟩
theorem kn_set {tm0 : Tr AV} {l : Kn} {i : Nat} {u : AV} (htm : ∀ t v, kn l t = some v → tget tm0 t = v) : ∀ t v, kn ((i, u) :: l) t = some v → tget (tm0.set i u) t = v := fun t v hk => by
 rw [kn_cons] at hk
 rw [q4K]
 split at hk
 ·rename_i h; cases hk; rw [if_pos h]
 ·rename_i h; rw [if_neg h]; exact htm t v hk
theorem Own.same {es : Nat} {eT : TypeId} {b : Nat} {h g : Hp} {v : AV} {rows : List (List AV)} (ho : Own es eT b h v rows) (hn : h.nx ≤ g.nx) (hs : ∀ s, b ≤ s → s < h.nx → g.get s = h.get s) : Own es eT b g v rows := by
 rcases ho with h1 | ⟨h1, r, h2, h3, h4, h5⟩
 ·exact .inl h1
 ·exact .inr ⟨h1, r, h2, by omega, h4, (hs r h2 h3).trans h5⟩
theorem Own.cell {es : Nat} {eT : TypeId} {b : Nat} {h : Hp} {v : AV} {rows : List (List AV)} (ho : Own es eT b h v rows) : cellsOf v = some [v] ∧ q0P v = true := by
 rcases ho with ⟨rfl, _⟩ | ⟨_, r, _, _, rfl, _⟩ <;> exact ⟨rfl, rfl⟩
structure JJ (h : Hp) (tm0 : Tr AV) (A B : Code) (ks : List Int) (g : Hp) : Prop where
 wid : Wid h g
 box : ∃ v, g.get h.nx = some (.cells 26 [v]) ∧ Own 1 3 (h.nx + 3) g v (ks.map cI)
 dd : g.get (h.nx + 1) = some (.defd (some []))
 lp : g.get (h.nx + 2) = some (.loop .ready none tm0 13 [7] A B (h.nx + 1))
 nx : h.nx + 3 ≤ g.nx
theorem coreV (hP : POk Tryz.prog F gl K) {h : Hp} {q : Nat} {ls : Sl Int} {tm0 : Tr AV} {A B : Code} (hlen : ls.list.length < 1000000) (hq : h.get q = some (.cells 26 [ls.av cI])) (hqn : q < h.nx)
  (hy : ∀ ks x g, JJ h tm0 A B ks g → ks.length < ls.list.length → RoundT Tryz.prog F g (fun v g' => v = .bool true ∧ JJ h tm0 A B (ks ++ [x]) g') (h.nx + 2) [.int .i64 x]) :
  CallsT Tryz.prog F (((h.new (.cells 26 [.nilsl])).new (.defd (some []))).new (.loop .ready none tm0 13 [7] A B (h.nx + 1))) (fun _ g => JJ h tm0 A B ls.list g) q0F [.fn (.yield (h.nx + 2)) [] [], .ptr q 0] := by
 refine values1T hP hlen (JJ h tm0 A B) ?_ ?_ hy
 ·simp [show ¬ h.nx = q by omega, show ¬ h.nx + 1 = q by omega, show ¬ h.nx + 2 = q by omega, hq]
 ·exact ⟨(((Wid.refl h).new _).new _).new _, ⟨.nilsl, by simp [show ¬ h.nx + 1 + 1 = h.nx by omega], .nil⟩, by simp, by simp, by simp⟩
theorem appseqT (hP : POk Tryz.prog F gl K) {h : Hp} {q : Nat} {ls : Sl Int} (hlen : ls.list.length < 1000000) (hq : h.get q = some (.cells 26 [ls.av cI])) (hqn : q < h.nx) :
  CallsT Tryz.prog F h (fun v g => Wid h g ∧ Own 1 3 (h.nx + 3) g v (ls.list.map cI)) q2r [.nilsl, .fn (.func q0F) [] [.ptr q 0]] := by
 refine CallsT.body hP q0e q6N rfl rfl ?_
 repeat' first | refine TW.seq ?_ | refine TW.block ?_ | (refine TW.regG hP (by simp <;> rfl) ?_; dsimp only [goK])
 refine TW.rangeF hP rfl q7k fun tm0 htm => ?_
 refine (coreV hP (tm0 := tm0) hlen hq hqn ?_).mono ?_
 ·rintro ks x g ⟨hw, ⟨v, hbx, hown⟩, hdd, hlp, hnx⟩ hk
  refine RoundT.intro hlp rfl (by decide) _ (kn_set htm) ?_
  refine TW.reg hP (by simp <;> rfl) ?_
  dsimp only [goK]
  refine ⟨rfl, none, tm0, _, _, _, _, _, Eq.trans (b := g.get (h.nx + 2)) (by simp) hlp, ?_⟩
  refine TW.gen (fun G => G.get h.nx = some (.cells 26 [v]) ∧ (match g.get (h.nx + 2) with | some (.loop _ _ tm n ps A B d) => G.get (h.nx + 2) = some (.loop .busy none tm n ps A B d) | _ => False) ∧ G.get (h.nx + 1) = some (.defd (some [])) ∧ Own 1 3 (h.nx + 3) G v (ks.map cI) ∧ G.nx = g.nx ∧ (∀ s, s < h.nx → G.get s = g.get s) ∧ Wid h G) ?_ ?_
  ·have hs : ∀ o s, s ≠ h.nx + 2 → (g.put (h.nx + 2) o).get s = g.get s := fun o s h2 => by
    simp [show ¬ h.nx + 2 = s by omega]
   refine ⟨(hs _ _ (by omega)).trans hbx, by rw [hlp]; simp, (hs _ _ (by omega)).trans hdd, hown.same (by simp) fun s h1 h2 => hs _ _ (by omega), by simp, fun s h1 => hs _ _ (by omega), ⟨by simp; have := hw.nx; omega, fun s h1 => (hs _ _ (by omega)).trans (hw.get s h1)⟩⟩
  ·rintro G ⟨g1, g3, g4, g5, g6, g7, g8⟩
   rw [hlp] at g3
   dsimp only at g3
   obtain ⟨v', k', happ, hown', hwb, hkn⟩ := g5.push (t := q0u) (row := [.int .i64 x]) (q0Q (gl := gl) (K := K)) q1a rfl rfl (by simp; omega) (by omega)
   dsimp only [q0u] at happ
   repeat' first | refine TW.block ?_ | (refine TW.regG hP (by simp [g1, happ, hwb.get _ (show h.nx < h.nx + 3 by omega), hown'.cell.1, hown'.cell.2] <;> rfl) ?_; dsimp only [goK]) | simp only [q0f]
   have hlow : ∀ s, s < h.nx + 3 → s ≠ h.nx → (k'.put h.nx (.cells 26 [v'])).get s = G.get s := fun s h1 h2 => by
    rw [get_put, if_neg (by omega)]; exact hwb.get s h1
   refine ⟨none, tm0, 13, [7], _, _, h.nx + 1, (hlow _ (by omega) (by omega)).trans g3, ?_⟩
   dsimp only
   have hlow2 : ∀ o s, s < h.nx + 3 → s ≠ h.nx → s ≠ h.nx + 2 → ((k'.put h.nx (.cells 26 [v'])).put (h.nx + 2) o).get s = G.get s := fun o s h1 h2 h3 => by
    rw [get_put, if_neg (by omega)]; exact hlow s h1 h2
   refine ⟨rfl, ⟨⟨by simp; have := g8.nx; omega, fun s h1 => (hlow2 _ s (by omega) (by omega) (by omega)).trans (g8.get s h1)⟩, ⟨v', by simp, ?_⟩, (hlow2 _ _ (by omega) (by omega) (by omega)).trans g4, by simp, by simp; omega⟩⟩
   have := fun o => hown'.same (g := (k'.put h.nx (.cells 26 [v'])).put (h.nx + 2) o) (by simp) fun s h1 h2 => by rw [get_put, if_neg (by omega), get_put, if_neg (by omega)]
   simpa using this _
 ·rintro _ g ⟨hw, ⟨v, hbx, hown⟩, hdd, hlp, hnx⟩
  simp only [nx_new]
  refine ⟨.ready, none, tm0, _, _, _, _, _, hlp, nofun, ?_⟩
  dsimp only [q0f, q0a]
  have hlow : ∀ s, s ≠ h.nx + 2 → (g.put (h.nx + 2) .dead).get s = g.get s := fun s h1 => by rw [get_put, if_neg (by omega)]
  repeat' first | refine TW.seq ?_ | (refine TW.regG hP (by simp [hlow, hbx] <;> rfl) ?_; dsimp only [goK]) | simp only [q0a]
  refine TW.ret ⟨.inr rfl, (g.put (h.nx + 2) .dead).put (h.nx + 1) (.defd none), _, ?_, rfl, ?_, ?_⟩
  ·unfold q2q
   have : (g.put (h.nx + 2) .dead).get (h.nx + 1) = some (.defd (some [])) := (hlow _ (by omega)).trans hdd
   simp only [this, q2q]
  ·exact (hw.put (by omega) _).put (by omega) _
  ·exact hown.same (by simp) fun s h1 h2 => by rw [get_put, if_neg (by omega)]; exact hlow s (by omega)
theorem collectT (hP : POk Tryz.prog F gl K) {h : Hp} {q : Nat} {ls : Sl Int} (hlen : ls.list.length < 1000000) (hq : h.get q = some (.cells 26 [ls.av cI])) (hqn : q < h.nx) :
  CallsT Tryz.prog F h (fun v g => Wid h g ∧ Own 1 3 (h.nx + 3) g v (ls.list.map cI)) q3P [.fn (.func q0F) [] [.ptr q 0]] := by
 refine CallsT.body hP q0e q9S rfl rfl ?_
 repeat' first | refine TW.seq ?_ | (refine TW.regG hP (by simp <;> rfl) ?_; dsimp only [goK])
 refine TO.ccall hP q6M (appseqT hP hlen hq hqn) (by simp) rfl rfl rfl rfl (fun v g hg => ?_)
 refine TO.runsG hP (by simp <;> rfl) ?_
 try dsimp only [goK]
 repeat' first | simp only [q0a] | (refine TW.ret ⟨.inr rfl, _, _, rfl, rfl, ?_⟩; dsimp only [q0h])
 exact hg
theorem values_mem (hP : POk Tryz.prog F gl K) {h : Hp} {v : AV} (hv : cellsOf v = some [v]) (hc : q0P v = true) :
  CallsT Tryz.prog F h (fun u g => Wid h g ∧ u = .fn (.func q0F) [] [.ptr h.nx 0] ∧ g.nx = h.nx + 1 ∧ g.get h.nx = some (.cells 26 [v])) q2U [v] := by
 refine CallsT.body hP q0e q8n rfl rfl ?_
 repeat' first | refine TW.seq ?_ | (refine TW.regG hP (by simp [hv] <;> rfl) ?_; dsimp only [goK]) | simp only [q0a] | (refine TW.ret ⟨.inr rfl, _, _, rfl, rfl, ?_⟩; dsimp only [q0h])
 exact ⟨(Wid.refl h).new _, trivial, by simp, by simp⟩
end Go.Ax
noncomputable section
namespace Go.Ax
open Go.Proofs Go.Shelf
def sortLs_ren : Go.Shelf.Ren := ⟨fun | 5 => 61 | 8 => 100 | 7 => 99 | 19 => 136 | 20 => 137 | 10 => 127 | 11 => 128 | 12 => 129 | 13 => 130 | 14 => 131 | 15 => 132 | 16 => 133 | 17 => 134 | 18 => 135 | 30 => 164 | 31 => 165 | 32 => 166 | 33 => 167 | 34 => 168 | 35 => 169 | 40 => 188 | n => n, fun | 23 => 26 | 25 => 3 | 3 => 3 | 32 => 136 | 22 => 26 | 0 => 0 | 44 => 172 | 46 => 174 | 4 => 4 | 36 => 166 | 35 => 165 | 41 => 119 | 5 => 5 | 9 => 9 | 53 => 205 | 57 => 209 | 63 => 232 | 64 => 105 | n => n, fun | n => n⟩
theorem sortLs : Go.Proofs.SlLaysM.n5 Tryz.prog sortLs_ren := { mixed := by kernel_rfl, f5 := ⟨ "slices.Sort[[]int,int]", by decide, Tryz.func61.trans (congrArg some (by kernel_rfl))⟩, f7 := ⟨ "slices.pdqsortOrdered[int]", by decide, Tryz.func99.trans (congrArg some (by kernel_rfl))⟩, f8 := Tryz.func100.trans (congrArg some (by kernel_rfl)), f10 := ⟨ "slices.insertionSortOrdered[int]", by decide, Tryz.func127.trans (congrArg some (by kernel_rfl))⟩, f11 := ⟨ "slices.heapSortOrdered[int]", by decide, Tryz.func128.trans (congrArg some (by kernel_rfl))⟩, f12 := ⟨ "slices.breakPatternsOrdered[int]", by decide, Tryz.func129.trans (congrArg some (by kernel_rfl))⟩, f13 := ⟨ "slices.choosePivotOrdered[int]", by decide, Tryz.func130.trans (congrArg some (by kernel_rfl))⟩, f14 := ⟨ "slices.reverseRangeOrdered[int]", by decide, Tryz.func131.trans (congrArg some (by kernel_rfl))⟩, f15 := ⟨ "slices.partialInsertionSortOrdered[int]", by decide, Tryz.func132.trans (congrArg some (by kernel_rfl))⟩, f16 := ⟨ "cmp.Less[int]", by decide, Tryz.func133.trans (congrArg some (by kernel_rfl))⟩, f17 := ⟨ "slices.partitionEqualOrdered[int]", by decide, Tryz.func134.trans (congrArg some (by kernel_rfl))⟩, f18 := ⟨ "slices.partitionOrdered[int]", by decide, Tryz.func135.trans (congrArg some (by kernel_rfl))⟩, f19 := Tryz.func136.trans (congrArg some (by kernel_rfl)), f20 := Tryz.func137.trans (congrArg some (by kernel_rfl)), f30 := ⟨ "slices.siftDownOrdered[int]", by decide, Tryz.func164.trans (congrArg some (by kernel_rfl))⟩, f31 := Tryz.func165.trans (congrArg some (by kernel_rfl)), f32 := Tryz.func166.trans (congrArg some (by kernel_rfl)), f33 := ⟨ "slices.medianAdjacentOrdered[int]", by decide, Tryz.func167.trans (congrArg some (by kernel_rfl))⟩, f34 := ⟨ "slices.medianOrdered[int]", by decide, Tryz.func168.trans (congrArg some (by kernel_rfl))⟩, f35 := ⟨ "cmp.isNaN[int]", by decide, Tryz.func169.trans (congrArg some (by kernel_rfl))⟩, f40 := ⟨ "slices.order2Ordered[int]", by decide, Tryz.func188.trans (congrArg some (by kernel_rfl))⟩, t0 := Tryz.underlying0, a0 := Tryz.isAgg0, z0 := Tryz.sizeOf0, v0 := Tryz.zeroValue0, t3 := Tryz.underlying3, a3 := Tryz.isAgg3, z3 := Tryz.sizeOf3, v3 := Tryz.zeroValue3, t4 := Tryz.underlying4, a4 := Tryz.isAgg4, z4 := Tryz.sizeOf4, v4 := Tryz.zeroValue4, t5 := Tryz.underlying5, a5 := Tryz.isAgg5, z5 := Tryz.sizeOf5, v5 := Tryz.zeroValue5, t9 := Tryz.underlying9, a9 := Tryz.isAgg9, z9 := Tryz.sizeOf9, v9 := Tryz.zeroValue9, t22 := Tryz.underlying26, a22 := Tryz.isAgg26, z22 := Tryz.sizeOf26, v22 := Tryz.zeroValue26, t23 := Tryz.underlying26, a23 := Tryz.isAgg26, z23 := Tryz.sizeOf26, v23 := Tryz.zeroValue26, t25 := Tryz.underlying3, a25 := Tryz.isAgg3, z25 := Tryz.sizeOf3, v25 := Tryz.zeroValue3, t32 := Tryz.underlying136, a32 := Tryz.isAgg136, z32 := Tryz.sizeOf136, v32 := Tryz.zeroValue136, t35 := Tryz.underlying165, a35 := Tryz.isAgg165, z35 := Tryz.sizeOf165, v35 := Tryz.zeroValue165, t36 := Tryz.underlying166, a36 := Tryz.isAgg166, z36 := Tryz.sizeOf166, v36 := Tryz.zeroValue166, t41 := Tryz.underlying119, a41 := Tryz.isAgg119, z41 := Tryz.sizeOf119, v41 := Tryz.zeroValue119, t44 := Tryz.underlying172, a44 := Tryz.isAgg172, z44 := Tryz.sizeOf172, v44 := Tryz.zeroValue172, t46 := Tryz.underlying174, a46 := Tryz.isAgg174, z46 := Tryz.sizeOf174, v46 := Tryz.zeroValue174, t53 := Tryz.underlying205, a53 := Tryz.isAgg205, z53 := Tryz.sizeOf205, v53 := Tryz.zeroValue205, t57 := Tryz.underlying209, a57 := Tryz.isAgg209, z57 := Tryz.sizeOf209, v57 := Tryz.zeroValue209, t63 := Tryz.underlying232, a63 := Tryz.isAgg232, z63 := Tryz.sizeOf232, v63 := Tryz.zeroValue232, t64 := Tryz.underlying105, a64 := Tryz.isAgg105, z64 := Tryz.sizeOf105, v64 := Tryz.zeroValue105 }
def compLs_ren : Go.Shelf.Ren := ⟨fun | 43 => 23 | n => n, fun | 22 => 26 | 23 => 3 | 3 => 3 | 4 => 4 | 0 => 0 | n => n, fun | n => n⟩
theorem compLs : Go.Proofs.SlLaysN.n43 Tryz.prog compLs_ren := { mixed := by kernel_rfl, f43 := ⟨ "slices.Compact[[]int,int]", by decide, Tryz.func23.trans (congrArg some (by kernel_rfl))⟩, t0 := Tryz.underlying0, a0 := Tryz.isAgg0, z0 := Tryz.sizeOf0, v0 := Tryz.zeroValue0, t3 := Tryz.underlying3, a3 := Tryz.isAgg3, z3 := Tryz.sizeOf3, v3 := Tryz.zeroValue3, t4 := Tryz.underlying4, a4 := Tryz.isAgg4, z4 := Tryz.sizeOf4, v4 := Tryz.zeroValue4, t22 := Tryz.underlying26, a22 := Tryz.isAgg26, z22 := Tryz.sizeOf26, v22 := Tryz.zeroValue26, t23 := Tryz.underlying3, a23 := Tryz.isAgg3, z23 := Tryz.sizeOf3, v23 := Tryz.zeroValue3, i23 := by kernel_rfl }
end Go.Ax
noncomputable section
namespace Go.Ax
open Go.Proofs Go.Shelf Go.Sort Go.RowKit
variable {P : Program} {F : Nat → Option Obj} {ρ : Go.Shelf.Ren}
abbrev sortI (l : List Int) : List Int := l.mergeSort fun x y => decide (x ≤ y)
theorem z1t (l : List Int) : (sortI l).length = l.length := List.length_mergeSort _
theorem compact_len (l : List Int) : (Lib.compact l).length ≤ l.length := by
 unfold Lib.compact Lib.compactUpTo
 rw [List.length_map]
 have := List.length_filter_le (Lib.keeps l.toArray) (List.range l.length)
 rwa [List.length_range] at this
theorem sort_mem (LM : SlLaysM.n5 P ρ) {h : Hp} {r c : Nat} {x : Bool} {eT : TypeId} {l : List Int} (hr : h.get r = some (.cells eT (l.map (.int .i64)))) (hl : l.length < 4611686018427387904) :
  CallsT P F h (fun v g => v = .tup [] ∧ g = h.put r (.cells eT ((sortI l).map (.int .i64)))) (ρ.f 5) [.sl r 0 l.length c 1 x] := by
 intro m w N cargs hR hA hF
 obtain ⟨cx, csl, e1, e2, e3⟩ := hA.cases_cons
 cases e3.cases_nil
 obtain ⟨b, z, ccap, hm, rfl, h1, h2, h3, h4⟩ := e2.sl_inv
 obtain rfl : cargs = #[.slice (some ⟨b, 0, none⟩) l.length ccap] := Array.ext' e1
 obtain ⟨arr, o1, o2, o3, o4⟩ := hR.obj r _ b z hr hm
 have hlt := hR.lt hr rfl hm
 have o3' : l.length ≤ z := by simpa using o3
 have hH : Holds (Value.int .i64) w b 0 l.toArray := by
  intro j hj
  rw [List.size_toArray] at hj
  refine ⟨?_, ?_⟩
  ·simp only [World.cell?, o1, Nat.zero_add]
   have hy : arr[j]? = some arr[j]! := by
    rw [getElem!_pos arr j (by omega)]; exact Array.getElem?_eq_getElem _
   have hx : (l.map (AV.int .i64))[j]? = some (.int .i64 l[j]!) := by
    rw [List.getElem?_map, List.getElem?_eq_getElem hj, getElem!_pos l j hj]; rfl
   have := (o4 j _ _ hx hy).int_inv

   rw [hy, this]
   simp
  ·simp [World.frozen?, o1]
 have hcall := AnyM.slices_Sort_int LM b 0 ccap l w hH hlt hl
 refine (callsIn_wide.2 hcall).mono fun e' w' he => ?_
 obtain ⟨rfl, q, os, rfl⟩ := he
 generalize hss : (l.mergeSort fun x y => decide (x ≤ y)) = ss
 have hsl : ss.length = l.length := by rw [← hss]; exact List.length_mergeSort _
 have hat : (putRow (Value.int .i64) (Sort.ahead w q) b 0 ss.toArray).heap[b]? = some (.cells (arr.mapIdx fun k x => if 0 ≤ k ∧ k < 0 + ss.toArray.size then Value.int .i64 ss.toArray[k - 0]! else x) eT (0, 0)) := by
  simp only [putRow, mapBlock, Sort.ahead, Array.getElem?_modify, o1]
  rfl
 have s1 : Step P F m h (h.put r (.cells eT (ss.map (.int .i64)))) w (putRow (Value.int .i64) (Sort.ahead w q) b 0 ss.toArray) m := by
  refine Step.put hR hr rfl hm hat (fun c hc => ?_) ?_ ⟨rfl, rfl, rfl⟩ ⟨_, rfl, ?_, ?_, ?_⟩
  ·simp only [putRow, mapBlock, Sort.ahead, Array.getElem?_modify]
   rw [if_neg (fun e => hc e.symm)]
  ·simp only [putRow, mapBlock, Sort.ahead, Array.size_modify]
  ·simpa using o2
  ·rw [List.length_map]; omega
  ·intro i x y hx hy
   rw [Array.getElem?_mapIdx] at hy
   obtain ⟨a, ha, rfl⟩ := Option.map_eq_some_iff.1 hy
   rw [List.getElem?_map] at hx
   obtain ⟨n, hn, rfl⟩ := Option.map_eq_some_iff.1 hx
   have hi := (List.getElem?_eq_some_iff.1 hn).1
   rw [if_pos ⟨Nat.zero_le _, by simpa using hi⟩, Nat.sub_zero]
   have : ss.toArray[i]! = n := by
    rw [getElem!_pos ss.toArray i (by simpa using hi)]
    simpa using (List.getElem?_eq_some_iff.1 hn).2
   rw [this]
   exact .int _ _
 refine ⟨_, _, ⟨rfl, rfl⟩, HpLe.put hr _, _, m, rfl, ?_, .tup (by simp) (by simp)⟩
 rw [show (sortI l) = ss from hss]
 refine s1.trans (Step.grow s1.rel ?_ (fun c hc => ?_) ⟨rfl, rfl, rfl⟩)
 ·simp only [grow, Array.size_append]; omega
 ·simp only [grow]
  exact Array.getElem?_append_left hc
theorem sort_nil (LM : SlLaysM.n5 P ρ) {h : Hp} : CallsT P F h (fun v g => v = .tup [] ∧ g = h) (ρ.f 5) [.nilsl] := by
 intro m w N cargs hR hA hF
 obtain ⟨cx, csl, e1, e2, e3⟩ := hA.cases_cons
 cases e3.cases_nil
 cases e2
 obtain rfl : cargs = #[.slice none 0 0] := Array.ext' e1
 refine (callsIn_wide.2 (AnyM.slices_Sort_int_none LM none 0 w)).mono fun e' w' he => ?_
 obtain ⟨rfl, rfl⟩ := he
 exact ⟨_, _, ⟨rfl, rfl⟩, .refl _, _, m, rfl, Step.refl hR rfl (SameOut.refl _), .tup (by simp) (by simp)⟩
theorem CallsT.frz {h : Hp} {O O' : AV → Hp → Prop} {f : FuncId} {args : List AV} (hc : CallsT P F h O f args) (hO : ∀ v g, O v g → ∃ (S : Nat → Prop) (k : Nat) (v' : AV), frzV k (g.only S) v = some v' ∧ O' v' (g.wo S)) : CallsT P F h O' f args := by
 intro m w N cargs hR hA hF
 refine (hc m w N cargs hR hA hF).mono fun e w' ⟨v, g, ho, hle, cv, m', he, hst, hv⟩ => ?_
 obtain ⟨S, k, v', h1, h2⟩ := hO v g ho
 obtain ⟨m2, hs2, hv2⟩ := Step.freeze S hst.rel
 exact ⟨v', _, h2, hle.trans (wo_le S), cv, m2, he, hst.trans hs2, hv2 _ _ _ _ hv h1⟩
theorem compact_mem (LC : SlLaysN.n43 P ρ) {h : Hp} {r c : Nat} {x : Bool} {eT : TypeId} {l : List Int} (hr : h.get r = some (.cells eT (l.map (.int .i64)))) (hl : l.length < 4611686018427387904) (hcl : l.length ≤ c) :
  CallsT P F h (fun v g => v = .sl r 0 (Lib.compact l).length c 1 x ∧ g = h.put r (.cells eT ((Lib.compact l ++ List.replicate (l.length - (Lib.compact l).length) 0).map (.int .i64)))) (ρ.f 43) [.sl r 0 l.length c 1 x] := by
 intro m w N cargs hR hA hF
 obtain ⟨cx, csl, e1, e2, e3⟩ := hA.cases_cons
 cases e3.cases_nil
 obtain ⟨b, z, ccap, hm, rfl, h1, h2, h3, h4⟩ := e2.sl_inv
 obtain rfl : cargs = #[.slice (some ⟨b, 0, none⟩) l.length ccap] := Array.ext' e1
 obtain ⟨arr, o1, o2, o3, o4⟩ := hR.obj r _ b z hr hm
 have hlt := hR.lt hr rfl hm
 have o3' : l.length ≤ z := by simpa using o3
 have hH : Holds (Value.int .i64) w b 0 l.toArray := by
  intro j hj
  rw [List.size_toArray] at hj
  refine ⟨?_, ?_⟩
  ·simp only [World.cell?, o1, Nat.zero_add]
   have hy : arr[j]? = some arr[j]! := by
    rw [getElem!_pos arr j (by omega)]; exact Array.getElem?_eq_getElem _
   have hx : (l.map (AV.int .i64))[j]? = some (.int .i64 l[j]!) := by
    rw [List.getElem?_map, List.getElem?_eq_getElem hj, getElem!_pos l j hj]; rfl
   have := (o4 j _ _ hx hy).int_inv
   rw [hy, this]
   simp
  ·simp [World.frozen?, o1]
 have hcall := AnyG.slices_Compact_int LC b 0 ccap l w hH (by omega) (by omega)
 refine (callsIn_wide.2 hcall).mono fun e' w' he => ?_
 obtain ⟨rfl, q, rfl⟩ := he
 have hcz := compact_len l
 generalize hss : Lib.compact l ++ List.replicate (l.length - (Lib.compact l).length) 0 = ss
 have hsl : ss.length = l.length := by rw [← hss]; simp; omega
 have hat : (putRow (Value.int .i64) (Sort.ahead w q) b 0 ss.toArray).heap[b]? = some (.cells (arr.mapIdx fun k x => if 0 ≤ k ∧ k < 0 + ss.toArray.size then Value.int .i64 ss.toArray[k - 0]! else x) eT (0, 0)) := by
  simp only [putRow, mapBlock, Sort.ahead, Array.getElem?_modify, o1]
  rfl
 have s1 : Step P F m h (h.put r (.cells eT (ss.map (.int .i64)))) w (putRow (Value.int .i64) (Sort.ahead w q) b 0 ss.toArray) m := by
  refine Step.put hR hr rfl hm hat (fun c hc => ?_) ?_ ⟨rfl, rfl, rfl⟩ ⟨_, rfl, ?_, ?_, ?_⟩
  ·simp only [putRow, mapBlock, Sort.ahead, Array.getElem?_modify]
   rw [if_neg (fun e => hc e.symm)]
  ·simp only [putRow, mapBlock, Sort.ahead, Array.size_modify]
  ·simpa using o2
  ·rw [List.length_map]; omega
  ·intro i x y hx hy
   rw [Array.getElem?_mapIdx] at hy
   obtain ⟨a, ha, rfl⟩ := Option.map_eq_some_iff.1 hy
   rw [List.getElem?_map] at hx
   obtain ⟨n, hn, rfl⟩ := Option.map_eq_some_iff.1 hx
   have hi := (List.getElem?_eq_some_iff.1 hn).1
   rw [if_pos ⟨Nat.zero_le _, by simpa using hi⟩, Nat.sub_zero]
   have : ss.toArray[i]! = n := by
    rw [getElem!_pos ss.toArray i (by simpa using hi)]
    simpa using (List.getElem?_eq_some_iff.1 hn).2
   rw [this]
   exact .int _ _
 exact ⟨_, _, ⟨rfl, rfl⟩, HpLe.put hr _, _, m, rfl, s1, .sl hm (by omega) h2 h3 h4⟩
theorem compact_nil (LC : SlLaysN.n43 P ρ) {h : Hp} : CallsT P F h (fun v g => v = .nilsl ∧ g = h) (ρ.f 43) [.nilsl] := by
 intro m w N cargs hR hA hF
 obtain ⟨cx, csl, e1, e2, e3⟩ := hA.cases_cons
 cases e3.cases_nil
 cases e2
 obtain rfl : cargs = #[.slice none 0 0] := Array.ext' e1
 refine (callsIn_wide.2 (AnyG.slices_Compact_int_empty LC none 0 w)).mono fun e' w' he => ?_
 obtain ⟨rfl, rfl⟩ := he
 exact ⟨_, _, ⟨rfl, rfl⟩, .refl _, _, m, rfl, Step.refl hR rfl (SameOut.refl _), .nilsl⟩
theorem upTo_sorted {l : List Int} (hs : l.Pairwise (· ≤ ·)) : ∀ m, m ≤ l.length → (Lib.compactUpTo l.toArray m).Pairwise (· < ·) ∧ (∀ x, x ∈ Lib.compactUpTo l.toArray m ↔ x ∈ l.take m)
  | 0, _ => ⟨by simp [Lib.compactUpTo], by simp [Lib.compactUpTo]⟩
  | m + 1, hm => by
    obtain ⟨h1, h2⟩ := upTo_sorted hs m (by omega)
    have hlt : m < l.length := by omega
    have hg : l.toArray[m]! = l[m] := by rw [getElem!_pos l.toArray m (by simpa using hlt)]; simp
    rw [Lib.compactUpTo_succ, List.take_succ_eq_append_getElem hlt, hg]
    by_cases hk : Lib.keeps l.toArray m = true
    · rw [if_pos hk]
      refine ⟨List.pairwise_append.2 ⟨h1, by simp, fun a ha b hb => ?_⟩, fun x => by rw [List.mem_append, List.mem_append, h2]⟩
      rw [List.mem_singleton.1 hb]
      have ha := (h2 a).1 ha
      obtain ⟨i, hi, rfl⟩ := List.getElem_of_mem ha
      rw [List.length_take] at hi
      rw [List.getElem_take]
      unfold Lib.keeps at hk
      have hk := of_decide_eq_true hk
      have hm0 : m ≠ 0 := by omega
      rcases hk with hk | hk
      · exact absurd hk hm0
      · have hg2 : l.toArray[m - 1]! = l[m - 1] := by rw [getElem!_pos l.toArray (m - 1) (by simp; omega)]; simp
        rw [hg, hg2] at hk
        have a1 : l[i] ≤ l[m - 1] := by
          by_cases e : i = m - 1
          · subst e; exact Int.le_refl _
          · exact List.pairwise_iff_getElem.1 hs i (m - 1) (by omega) (by omega) (by omega)
        have a2 : l[m - 1] ≤ l[m] := List.pairwise_iff_getElem.1 hs (m - 1) m (by omega) hlt (by omega)
        omega
    · rw [if_neg hk, List.append_nil]
      refine ⟨h1, fun x => ?_⟩
      rw [h2, List.mem_append]
      refine ⟨fun h => .inl h, fun h => h.elim id fun h => ?_⟩
      rw [List.mem_singleton.1 h]
      unfold Lib.keeps at hk
      have hk : ¬ (m = 0 ∨ l.toArray[m]! ≠ l.toArray[m - 1]!) := fun h => hk (decide_eq_true h)
      have hm0 : m ≠ 0 := fun h => hk (.inl h)
      have hg2 : l.toArray[m - 1]! = l[m - 1] := by rw [getElem!_pos l.toArray (m - 1) (by simp; omega)]; simp
      have he : l.toArray[m]! = l.toArray[m - 1]! := Classical.byContradiction fun h => hk (.inr h)
      rw [hg, hg2] at he
      rw [he]
      exact List.mem_take_iff_getElem.2 ⟨m - 1, by omega, rfl⟩
theorem sortI_sorted (l : List Int) : (sortI l).Pairwise (· ≤ ·) := by
 have := List.pairwise_mergeSort (le := fun x y : Int => decide (x ≤ y)) (fun a b c h1 h2 => by simp at *; omega) (fun a b => by simp; omega) l
 exact this.imp fun h => by simpa using h
theorem z0e (l : List Int) : (Lib.compact (sortI l)).Pairwise (· < ·) ∧ ∀ x, x ∈ Lib.compact (sortI l) ↔ x ∈ l := by
 obtain ⟨h1, h2⟩ := upTo_sorted (sortI_sorted l) (sortI l).length (Nat.le_refl _)
 refine ⟨h1, fun x => (h2 x).trans ?_⟩
 rw [List.take_of_length_le (Nat.le_refl _)]
 exact (List.mergeSort_perm _ _).mem_iff
end Go.Ax
set_option maxRecDepth 20000
noncomputable section
namespace Go.Ax
open Go.Proofs
attribute [local irreducible] TW TO CallsT q0y RoundT
variable {F : Nat → Option Obj} {gl : Nat → AV} {K : Knob} {S S' : Nat → Prop} {X : Type}
theorem q7M : ∀ l : List Int, (l.map cI).flatten = l.map (.int .i64)
 | [] => rfl
 | a :: l => by simp [q7M l]
theorem Sort_own {g : Hp} {b : Nat} {v : AV} {l : List Int} (H : Own 1 3 b g v (l.map cI)) (hl : l.length < 1000000) :
  CallsT Tryz.prog F g (fun u g' => u = .tup [] ∧ Own 1 3 b g' v ((sortI l).map cI) ∧ g'.nx = g.nx ∧ ∀ s, s < b → g'.get s = g.get s) q5E [v] := by
 rcases H with ⟨rfl, h⟩ | ⟨hn, r, h1, h2, rfl, h3⟩
 ·have : l = [] := by simpa using h
  subst this
  exact (sort_nil (F := F) (h := g) sortLs).mono fun u g' ⟨h1, h2⟩ => by subst h2; exact ⟨h1, .inl ⟨rfl, by simp⟩, rfl, fun _ _ => rfl⟩
 ·rw [q7M] at h3
  rw [List.length_map]
  refine (sort_mem (F := F) (h := g) (c := l.length) (x := false) sortLs h3 (by omega)).mono fun u g' ⟨q1, q2⟩ => ?_
  subst q2
  refine ⟨q1, .inr ⟨?_, r, h1, by rw [nx_put]; exact h2, by rw [List.length_map, z1t], by rw [get_put, if_pos rfl, q7M]⟩, by rw [nx_put], fun s hs => by rw [get_put, if_neg (by omega)]⟩
  intro e
  have e := congrArg List.length e
  rw [List.length_map, z1t] at e
  exact hn (List.eq_nil_of_length_eq_zero (by simpa using e))
theorem sorted_mem (hP : POk Tryz.prog F gl K) {h : Hp} {q : Nat} {ls : Sl Int} (hlen : ls.list.length < 1000000) (hq : h.get q = some (.cells 26 [ls.av cI])) (hqn : q < h.nx) :
  CallsT Tryz.prog F h (fun v g => Wid h g ∧ Own 1 3 h.nx g v ((sortI ls.list).map cI)) q4h [.fn (.func q0F) [] [.ptr q 0]] := by
 refine CallsT.body hP q0e z0M rfl rfl ?_
 repeat' first | refine TW.seq ?_ | (refine TW.regG hP (by simp <;> rfl) ?_; dsimp only [goK])
 refine TO.ccall hP q9M (collectT hP hlen hq hqn) (by simp) rfl rfl rfl rfl (fun v g ⟨hw, hown⟩ => ?_)
 refine TO.runsG hP (by simp <;> rfl) ?_
 try dsimp only [goK]
 repeat' first | refine TW.seq ?_ | (refine TW.regG hP (by simp <;> rfl) ?_; dsimp only [goK])
 refine TO.ccall hP q9i (Sort_own (b := h.nx) (hown.mono (by omega)) (by omega)) (by simp) rfl rfl rfl rfl (fun u g2 ⟨hu, hown2, hn, hs⟩ => ?_)
 refine TO.runsG hP (by simp <;> rfl) ?_
 try dsimp only [goK]
 repeat' first | refine TW.seq ?_ | (refine TW.regG hP (by simp <;> rfl) ?_; dsimp only [goK]) | simp only [q0a] | (refine TW.ret ⟨.inr rfl, _, _, rfl, rfl, ?_⟩; dsimp only [q0h])
 exact ⟨⟨by have := hw.nx; omega, fun s hs' => (hs s hs').trans (hw.get s hs')⟩, hown2⟩
theorem chunks_ints' : ∀ (l : List Int) (t : List AV), chunks 1 l.length (l.map (AV.int .i64) ++ t) = l.map fun n => [AV.int .i64 n]
  | [], _ => rfl
  | a :: l, t => by
    show (List.map (AV.int .i64) (a :: l) ++ t).take 1 :: chunks 1 l.length ((List.map (AV.int .i64) (a :: l) ++ t).drop 1) = _
    simp [chunks_ints' l]
theorem Compact_own {g : Hp} {b : Nat} {v : AV} {l : List Int} (H : Own 1 3 b g v (l.map cI)) (hl : l.length < 1000000) :
  CallsT Tryz.prog F g (fun u g' => ∃ ls : Sl Int, ls.list = Lib.compact l ∧ u = ls.av cI ∧ g'.nx = g.nx ∧ ∀ s, s < b → g'.get s = g.get s) q4w [v] := by
 rcases H with ⟨rfl, h⟩ | ⟨hn, r, h1, h2, rfl, h3⟩
 ·have : l = [] := by simpa using h
  subst this
  exact (compact_nil (F := F) (h := g) compLs).mono fun u g' ⟨h1, h2⟩ => by subst h2; exact ⟨.nil, rfl, h1, rfl, fun _ _ => rfl⟩
 ·rw [q7M] at h3
  rw [List.length_map]
  refine CallsT.frz (compact_mem (F := F) (h := g) (c := l.length) (x := false) compLs h3 (by omega) (Nat.le_refl _)) fun u g' ⟨q1, q2⟩ => ?_
  subst q2
  refine ⟨fun s => s = r, 20, (Sl.mk (Lib.compact l)).av cI, ?_, .mk (Lib.compact l), rfl, rfl, by rw [wo_nx, nx_put], fun s hs => by rw [q8p (by omega), get_put, if_neg (by omega)]⟩
  rw [q1]
  show (match ((g.put r (.cells 3 ((Lib.compact l ++ List.replicate (l.length - (Lib.compact l).length) 0).map (.int .i64)))).only fun s => s = r).get r with
   | some (.cells _ cs) => bif Nat.ble (Nat.add 0 (Nat.mul (Lib.compact l).length 1)) cs.length then
     (match mapO (mapO (frzV 19 _)) (chunks 1 (Lib.compact l).length (cs.drop 0)) with | some l => some (AV.isl l) | none => none) else none
   | _ => none) = _
  rw [only_get (S := fun s => s = r) (show r = r from rfl), get_put, if_pos rfl]
  dsimp only
  rw [List.drop_zero, List.map_append, chunks_ints', z1l (k := 18)]
  have : Nat.ble (Nat.add 0 (Nat.mul (Lib.compact l).length 1)) ((Lib.compact l).map (AV.int .i64) ++ (List.replicate (l.length - (Lib.compact l).length) (0 : Int)).map (AV.int .i64)).length = true := Nat.ble_eq_true_of_le (by simp)
  rw [this]; rfl
end Go.Ax
set_option maxRecDepth 20000
noncomputable section
namespace Go.Ax
open Go.Proofs
attribute [local irreducible] TW TO CallsT q0y
variable {F : Nat → Option Obj} {gl : Nat → AV} {K : Knob} {S S' : Nat → Prop} {X : Type}
theorem noRef_iptr1 {l : List AV} {i o : Nat} : q4G (.iptr [l] i o) = q1v l := by
 show (q1v l && true) = _
 rw [Bool.and_true]
attribute [local simp] noRef_iptr1
theorem swap1_pure (hP : POk Tryz.prog F gl K) (a b r : Int) : q0y Tryz.prog F q8e [.int .i64 r, .iptr [[.int .i64 a]] 0 0, .iptr [[.int .i64 b]] 0 0] (.int .i64 (if r = a then b else r)) := by
 refine CallsT.pure (O := fun u _ => u = .int .i64 (if r = a then b else r)) (k := 1) (by simp) ?_ (fun u g e => by subst e; rfl)
 refine CallsT.body hP q0e E_tidy_Swap_1 rfl rfl ?_
 by_cases h : r = a
 ·repeat' first | refine TW.seq ?_ | refine TW.condT hP rfl ?_ | (refine TW.regG hP (by simp [h] <;> rfl) ?_; dsimp only [goK]) | simp only [q0a] | (refine TW.ret ⟨.inr rfl, _, _, rfl, rfl, ?_⟩; dsimp only [q0h])
  simp [h]
 ·repeat' first | refine TW.seq ?_ | refine TW.skip ?_ | refine TW.condF hP rfl ?_ | (refine TW.regG hP (by simp [h] <;> rfl) ?_; dsimp only [goK]) | simp only [q0a] | (refine TW.ret ⟨.inr rfl, _, _, rfl, rfl, ?_⟩; dsimp only [q0h])
  simp [h]
theorem drop1_pure (hP : POk Tryz.prog F gl K) (l : Sl Int) (r : Int) (hlen : l.list.length < 1000000) (h0 : 0 ≤ r) (h1 : r < 1000000000) :
  q0y Tryz.prog F q3a [.int .i64 r, .iptr [[l.av cI]] 0 0] (.int .i64 (r - ahead l.list r)) := by
 refine CallsT.pure (O := fun u _ => u = .int .i64 (r - ahead l.list r)) (k := 1) (by simp) ?_ (fun u g e => by subst e; rfl)
 refine CallsT.body hP q0e q5p rfl rfl ?_
 repeat' first | refine TW.seq ?_ | refine TW.block ?_ | (refine TW.regG hP (by simp <;> rfl) ?_; dsimp only [goK])
 refine TW.loopL (fun i : Nat => [(0, .int .i64 r), (4, .int .i64 (ahead (l.list.take i) r)), (7, l.av cI), (8, .int .i64 l.list.length), (9, .int .i64 i)]) (fun i _ => i ≤ l.list.length) (fun i => l.list.length - i) (0) ?_ ?_ ?_
 focus (repeat' first | exact q0c | refine q0b (by simp [ahead]) ?_)
 ·exact Nat.zero_le _
 rintro i g hi
 repeat' first | refine TW.seq ?_ | (refine TW.regG hP (by simp <;> rfl) ?_; dsimp only [goK])
 refine TW.cond hP rfl (fun hc => TW.skip ?_) (fun hc => TW.exit ?_)
 ·simp at hc
  obtain ⟨n, hn⟩ := q0g hc
  have hn2 := (List.getElem?_eq_some_iff.1 hn).2
  have ht := ahead_take (r := r) hn
  have hb := ahead_le (l.list.take i) r
  have hb2 : (l.list.take i).length ≤ i := by simp; omega
  have hav := q0z (e := cI) (show 0 < l.list.length by omega)
  dsimp only [q0a]
  by_cases hnr : n < r
  ·rw [if_pos hnr] at ht
   repeat' first | refine TW.seq ?_ | refine TW.block ?_ | refine TW.condT hP rfl ?_ | (refine TW.regG hP (by simp [hav, hn2, hc, hnr] <;> rfl) ?_; dsimp only [goK]) | simp only [q0d]
   refine ⟨i + 1, by omega, trivial, ?_, by omega⟩
   repeat' first | exact q0c | refine q0b (by simp [hav, w64s (show i < 9000000000000000000 by omega), ht, w64e (n := ahead (l.list.take i) r + 1) (by omega) (by omega)]) ?_
  ·rw [if_neg hnr, Int.add_zero] at ht
   repeat' first | refine TW.seq ?_ | refine TW.block ?_ | refine TW.skip ?_ | refine TW.condF hP rfl ?_ | (refine TW.regG hP (by simp [hav, hn2, hc, hnr] <;> rfl) ?_; dsimp only [goK]) | simp only [q0d]
   refine ⟨i + 1, by omega, trivial, ?_, by omega⟩
   repeat' first | exact q0c | refine q0b (by simp [hav, w64s (show i < 9000000000000000000 by omega), ht]) ?_
 ·simp at hc
  have hb := ahead_le l.list r
  rw [List.take_of_length_le hc]
  dsimp only [q0a]
  repeat' first | refine TW.seq ?_ | (refine TW.regG hP (by simp [w64e (n := r - ahead l.list r) (by omega) (by omega)] <;> rfl) ?_; dsimp only [goK]) | simp only [q0a] | (refine TW.ret ⟨.inr rfl, _, _, rfl, rfl, ?_⟩; dsimp only [q0h])
structure ToFn (F : Nat → Option Obj) (tf : FuncId) (caps : List AV) (T : Int → Int) (Rd : Int → Prop) : Prop where
 pure : ∀ r, Rd r → q0y Tryz.prog F tf (.int .i64 r :: caps) (.int .i64 (T r))
 fn : ∃ fn, Tryz.prog.funcs[tf]? = some fn ∧ fn.body.isSome = true
def q4c (T : Int → Int) (x : LIns) : LIns := { x with a := if q2Y x.op = true then T x.a else x.a, b := if two6 x.op = true then T x.b else x.b, args := .mk (x.args.list.map T), frm := x.frm }
structure RdX (Rd : Int → Prop) (x : LIns) : Prop where
 ra : q2Y x.op = true → Rd x.a
 rb : two6 x.op = true → Rd x.b
 rg : ∀ r ∈ x.args.list, Rd r
 op : 0 ≤ x.op ∧ x.op < 256
 len : x.args.list.length < 900000
theorem z0w {f : X → X} {l : List X} {i : Nat} {r : X} (h : l[i]? = some r) : ((l.take i).map f ++ l.drop i).set i (f r) = (l.take (i + 1)).map f ++ l.drop (i + 1) := by
 obtain ⟨h1, rfl⟩ := List.getElem?_eq_some_iff.1 h
 have hl : ((l.take i).map f).length = i := by simp; omega
 rw [List.set_append_right _ _ (by omega), hl, Nat.sub_self, List.drop_eq_getElem_cons h1, List.take_succ_eq_append_getElem h1, List.map_append, List.append_assoc]
 rfl
theorem z0y {f : X → X} {l : List X} {i : Nat} {r : X} (h : l[i]? = some r) : ((l.take i).map f ++ l.drop i)[i]? = some r := by
 obtain ⟨h1, rfl⟩ := List.getElem?_eq_some_iff.1 h
 have hl : ((l.take i).map f).length = i := by simp; omega
 rw [List.getElem?_append_right (by omega), hl, Nat.sub_self, List.drop_eq_getElem_cons h1]; rfl
theorem z0x {f : X → X} {l : List X} {i : Nat} : ((l.take i).map f ++ l.drop i).length = l.length := by simp; omega
theorem mapTake_all {f : X → X} {l : List X} : (l.take l.length).map f ++ l.drop l.length = l.map f := by simp
theorem RowIs.putz {eT : TypeId} {m m1 : Hp} {q j : Nat} {rows : List (List AV)} {row row' : List AV} (H : RowIs eT m q rows j row m1) : RowIs eT m q rows j row' (m1.put q (.cells eT ((rows.set j row).set j row').flatten)).z := by
 obtain ⟨h1, h2, h3⟩ := H.put (row' := row')
 exact ⟨by rw [nx_z]; exact h1, by rw [q1F]; exact h2, fun s hs => by rw [q1F]; exact h3 s hs⟩
theorem RowIs.putz0 {eT : TypeId} {m : Hp} {q j : Nat} {rows : List (List AV)} {row row' : List AV} (hg : m.get q = some (.cells eT rows.flatten)) (hr : rows[j]? = some row) : RowIs eT m q rows j row' (m.put q (.cells eT (rows.set j row').flatten)).z := by
 have := (RowIs.self hg hr).putz (row' := row')
 rwa [q5A hr] at this
theorem storeI {C : Ctx} {h : Hp} {r k : Nat} {L : List Int} {a v : Int} (hg : h.get r = some (.cells 3 (L.map (.int .i64)))) (hk : L[k]? = some a) (t : TypeId) (ht : sz1 C t = true) : storeAt C t (.ptr r k) (.int .i64 v) h = some (h.put r (.cells 3 ((L.set k v).map (.int .i64)))) := by
 have hg2 : h.get r = some (.cells 3 (L.map cI).flatten) := by rw [q7M]; exact hg
 have := store10 (C := C) (v := .int .i64 v) hg2 q1a (show (L.map cI)[k]? = some [.int .i64 a] by rw [List.getElem?_map, hk]; rfl) rfl rfl (by omega) t ht
 rw [Nat.mul_one] at this
 rw [this, show ([AV.int .i64 a].set 0 (.int .i64 v)) = cI v from rfl, ← List.map_set, q7M]
set_option maxHeartbeats 4000000 in
theorem turn1_mem (hP : POk Tryz.prog F gl K) (hX : ∀ f a, K.ext f a = none) (hG : gl q1n = .iptr [q1s] 0 0) {tf : FuncId} {caps : List AV} {T : Int → Int} {Rd : Int → Prop} (hto : ToFn F tf caps T Rd) (c q j : Nat) (rr : AV) (rows : List (List AV)) (row : List AV) (x : LIns) (Sj : Nat → Prop) (g : Hp)
    (hc : g.get c = some (.cells 77 [.fn (.func tf) [] caps])) (hq : g.get q = some (.cells q0M rows.flatten)) (hrows : q3l 7 rows) (hrj : rows[j]? = some row) (hI : InsO OffF x row g Sj) (hSj : ∀ s, Sj s → s ≠ q ∧ s ≠ c ∧ s < g.nx) (hcq : c ≠ q) (hcn : c < g.nx) (hqn : q < g.nx) (hx : RdX Rd x) :
    CallsT Tryz.prog F g (fun _ m => ∃ row', row'.length = 7 ∧ m.get q = some (.cells q0M (rows.set j row').flatten) ∧ InsO OffF (q4c T x) row' m Sj ∧ g.nx ≤ m.nx ∧ ∀ s, s < g.nx → s ≠ q → ¬ Sj s → m.get s = g.get s) q2o [rr, .ptr q (j * 7), .ptr c 0] := by
  obtain ⟨fn, hfn, hfb⟩ := hto.fn
  refine CallsT.body hP q0e q8A rfl rfl ?_
  obtain ⟨va, vf, Sa, Sf, rfl, ha, hf, hsa, hsf⟩ := hI
  have hL2 := fun t o => q2n (C := Ctx.of Tryz.prog gl K) (t := t) (o := o) hq hrows hrj
  have hL := fun t => q2i (C := Ctx.of Tryz.prog gl K) (t := t) hq hrows hrj
  have e1 := Uses_pure hP hG ⟨x.op, 0, 0, 0, 0, .nil, .nil⟩ hx.op.1 hx.op.2 (by simp [Sl.list])
  rw [uses_op] at e1
  dsimp only [LIns.cells, Sl.av] at e1
  obtain ⟨us, hus⟩ : ∃ us : List Int, us = (if q2Y x.op = true then [0] else []) ++ (if two6 x.op = true then [0] else []) := ⟨_, rfl⟩
  rw [← hus] at e1
  have hul := fun h => q3F (C := Ctx.of Tryz.prog gl K) (t := q0u) (h := h) (lenA_slOf us) (str_slOf us)
  dsimp only [q0u] at hul
  refine TW.join (fun _ : Unit => [(1, .ptr q (j * 7)), (2, .ptr c 0)]) (fun _ m1 => RowIs q0M g q rows j [.int .u8 x.op, .int .i64 x.type, .int .i64 (q4c T x).a, .int .i64 (q4c T x).b, .int .i64 x.n, va, vf] m1) ?_ ?_
  · repeat refine TW.seq ?_
    refine TW.regG hP (by simp [hL, q0L, q1h] <;> rfl) ?_
    dsimp only [goK]
    refine TO.scall hP I_shape_Uses (e1) (by simp) rfl rfl rfl rfl ?_
    refine TO.runsG hP (by simp [hul] <;> rfl) ?_
    dsimp only [goK, q0a]
    cases h2 : two6 x.op with
    | true =>
      have hA := two_hasA h2
      have eb := hto.pure x.b (hx.rb h2)
      have ea := hto.pure x.a (hx.ra hA)
      have hlen : us.length = 2 := by rw [hus, hA, h2]; rfl
      have hG2 := fun (gl : Nat → AV) (K : Knob) => (q5K (P := Tryz.prog) (gl := gl) (K := K)).trans hfn
      repeat' first | refine TW.seq ?_ | refine TW.block ?_ | refine TW.exit ?_ | refine TW.condT hP rfl ?_ | (refine TW.regG hP (by simp [hlen] <;> rfl) ?_; dsimp only [goK]) | simp only [q0a, q0f, ↓reduceIte]
      have hL2 := fun t o => q2n (h := g.up) (C := Ctx.of Tryz.prog gl (K.tell [(tf, .int .i64 x.b :: caps, .int .i64 (T x.b))])) (t := t) (o := o) (by rw [q2K]; exact hq) hrows hrj
      have hSt := q6p (h := g.up) (C := Ctx.of Tryz.prog gl (K.tell [(tf, .int .i64 x.b :: caps, .int .i64 (T x.b))])) (v := .int .i64 (T x.b)) (o := 3) (by rw [q2K]; exact hq) hrows hrj rfl rfl (by omega)
      dsimp only [q0M] at hSt
      try refine TW.seq ?_
      refine TW.drawH hP [(tf, (AV.int .i64 x.b :: caps), .int .i64 (T x.b))] (fun e he => by rcases List.mem_cons.1 he with rfl | he; exact eb; cases he) [0, 0, 0, 4, 12, 28, 62, 127, 255, 511] (by kernel_rfl) (by kernel_rfl) (by simp [hX, hc, hL2, q0L, q1h, hSt, -storeAt, sz1, hG2, hfb, (show ¬ g.nx ≤ q by omega), (show ¬ q = c by omega), oneD, fpAt, fpOf, q0v, ldOf, q0T, q0m, FP.clash, FP.hard, FP.soft, overlap, inR, q0A, q1T, Nat.testBit] <;> rfl) ?_
      repeat' (refine q1A (fun hb => ?_) (fun hb => ?_) <;> (try simp only [Bool.not_eq_eq_eq_not, Bool.not_true, Bool.not_false] at hb) <;> refine q4H (by simp [hb, hX, hc, hL2, q0L, q1h, hSt, -storeAt, sz1, hG2, hfb, (show ¬ g.nx ≤ c by omega), (show ¬ g.nx ≤ q by omega), hcq, (show ¬ q = c by omega), oneD, fpAt, fpOf, q0v, ldOf, q0T, q0m, FP.clash, FP.hard, FP.soft, overlap, inR, q0A, q1T, Nat.testBit, show ¬ g.nx + 1 ≤ g.nx by omega, show ¬ g.nx + 2 ≤ g.nx by omega, show ¬ g.nx + 2 ≤ g.nx + 1 by omega, show ¬ g.nx + 3 ≤ g.nx by omega, show ¬ g.nx + 3 ≤ g.nx + 1 by omega, show ¬ g.nx + 3 ≤ g.nx + 2 by omega] <;> rfl) ?_)
      all_goals dsimp only [okD, q0a]
      refine TW.gen (RowIs q0M g q rows j [.int .u8 x.op, .int .i64 x.type, .int .i64 x.a, .int .i64 (T x.b), .int .i64 x.n, va, vf]) (RowIs.putz0 hq hrj) fun m0 h0r => ?_
      clear hSt hL2
      have hnx := h0r.1
      have hc0 : m0.get c = _ := (h0r.2.2 c hcq).trans hc
      have hL2 := fun t o => q2n (h := m0.up) (C := Ctx.of Tryz.prog gl (K.tell [(tf, .int .i64 x.a :: caps, .int .i64 (T x.a))])) (t := t) (o := o) (by rw [q2K]; exact h0r.2.1) (q2u hrows rfl) (q3i hrj)
      have hSt := q6p (h := m0.up) (C := Ctx.of Tryz.prog gl (K.tell [(tf, .int .i64 x.a :: caps, .int .i64 (T x.a))])) (v := .int .i64 (T x.a)) (o := 2) (by rw [q2K]; exact h0r.2.1) (q2u hrows rfl) (q3i hrj) rfl rfl (by omega)
      dsimp only [q0M] at hSt
      try refine TW.seq ?_
      refine TW.drawH hP [(tf, (AV.int .i64 x.a :: caps), .int .i64 (T x.a))] (fun e he => by rcases List.mem_cons.1 he with rfl | he; exact ea; cases he) [0, 0, 0, 4, 12, 28, 62, 127, 255, 511] (by kernel_rfl) (by kernel_rfl) (by simp [hX, hc0, hL2, q0L, q1h, hSt, -storeAt, sz1, hG2, hfb, (show ¬ m0.nx ≤ q by omega), (show ¬ q = c by omega), oneD, fpAt, fpOf, q0v, ldOf, q0T, q0m, FP.clash, FP.hard, FP.soft, overlap, inR, q0A, q1T, Nat.testBit] <;> rfl) ?_
      repeat' (refine q1A (fun hb => ?_) (fun hb => ?_) <;> (try simp only [Bool.not_eq_eq_eq_not, Bool.not_true, Bool.not_false] at hb) <;> refine q4H (by simp [hb, hX, hc0, hL2, q0L, q1h, hSt, -storeAt, sz1, hG2, hfb, (show ¬ m0.nx ≤ c by omega), (show ¬ m0.nx ≤ q by omega), hcq, (show ¬ q = c by omega), oneD, fpAt, fpOf, q0v, ldOf, q0T, q0m, FP.clash, FP.hard, FP.soft, overlap, inR, q0A, q1T, Nat.testBit, show ¬ m0.nx + 1 ≤ m0.nx by omega, show ¬ m0.nx + 2 ≤ m0.nx by omega, show ¬ m0.nx + 2 ≤ m0.nx + 1 by omega, show ¬ m0.nx + 3 ≤ m0.nx by omega, show ¬ m0.nx + 3 ≤ m0.nx + 1 by omega, show ¬ m0.nx + 3 ≤ m0.nx + 2 by omega] <;> rfl) ?_)
      all_goals dsimp only [okD, q0a]
      repeat' first | refine TW.exit ?_ | simp only [q0f, ↓reduceIte]
      refine ⟨(), rfl, ?_, ?_⟩
      · repeat' first | exact q0c | refine q0b (by simp) ?_
      · have := h0r.putz (row' := [.int .u8 x.op, .int .i64 x.type, .int .i64 (T x.a), .int .i64 (T x.b), .int .i64 x.n, va, vf])
        simpa [q4c, hA, h2] using this
    | false =>
      cases hA : q2Y x.op with
      | true =>
        have ea := hto.pure x.a (hx.ra hA)
        have hlen : us.length = 1 := by rw [hus, hA, h2]; rfl
        have hG2 := fun (gl : Nat → AV) (K : Knob) => (q5K (P := Tryz.prog) (gl := gl) (K := K)).trans hfn
        repeat' first | refine TW.seq ?_ | refine TW.block ?_ | refine TW.skip ?_ | refine TW.exit ?_ | refine TW.condT hP rfl ?_ | refine TW.condF hP rfl ?_ | (refine TW.regG hP (by simp [hlen] <;> rfl) ?_; dsimp only [goK])
        have hL2 := fun t o => q2n (h := g.up) (C := Ctx.of Tryz.prog gl (K.tell [(tf, .int .i64 x.a :: caps, .int .i64 (T x.a))])) (t := t) (o := o) (by rw [q2K]; exact hq) hrows hrj
        have hSt := q6p (h := g.up) (C := Ctx.of Tryz.prog gl (K.tell [(tf, .int .i64 x.a :: caps, .int .i64 (T x.a))])) (v := .int .i64 (T x.a)) (o := 2) (by rw [q2K]; exact hq) hrows hrj rfl rfl (by omega)
        dsimp only [q0M] at hSt
        try refine TW.seq ?_
        refine TW.drawH hP [(tf, (AV.int .i64 x.a :: caps), .int .i64 (T x.a))] (fun e he => by rcases List.mem_cons.1 he with rfl | he; exact ea; cases he) [0, 0, 0, 4, 12, 28, 62, 127, 255, 511] (by kernel_rfl) (by kernel_rfl) (by simp [hX, hc, hL2, q0L, q1h, hSt, -storeAt, sz1, hG2, hfb, (show ¬ g.nx ≤ q by omega), (show ¬ q = c by omega), oneD, fpAt, fpOf, q0v, ldOf, q0T, q0m, FP.clash, FP.hard, FP.soft, overlap, inR, q0A, q1T, Nat.testBit] <;> rfl) ?_
        repeat' (refine q1A (fun hb => ?_) (fun hb => ?_) <;> (try simp only [Bool.not_eq_eq_eq_not, Bool.not_true, Bool.not_false] at hb) <;> refine q4H (by simp [hb, hX, hc, hL2, q0L, q1h, hSt, -storeAt, sz1, hG2, hfb, (show ¬ g.nx ≤ c by omega), (show ¬ g.nx ≤ q by omega), hcq, (show ¬ q = c by omega), oneD, fpAt, fpOf, q0v, ldOf, q0T, q0m, FP.clash, FP.hard, FP.soft, overlap, inR, q0A, q1T, Nat.testBit, show ¬ g.nx + 1 ≤ g.nx by omega, show ¬ g.nx + 2 ≤ g.nx by omega, show ¬ g.nx + 2 ≤ g.nx + 1 by omega, show ¬ g.nx + 3 ≤ g.nx by omega, show ¬ g.nx + 3 ≤ g.nx + 1 by omega, show ¬ g.nx + 3 ≤ g.nx + 2 by omega] <;> rfl) ?_)
        all_goals dsimp only [okD, q0a]
        repeat' first | refine TW.exit ?_ | simp only [q0f, ↓reduceIte]
        refine ⟨(), rfl, ?_, ?_⟩
        · repeat' first | exact q0c | refine q0b (by simp) ?_
        · have := RowIs.putz0 (row' := [.int .u8 x.op, .int .i64 x.type, .int .i64 (T x.a), .int .i64 x.b, .int .i64 x.n, va, vf]) hq hrj
          simpa [q4c, hA, h2] using this
      | false =>
        have hlen : us.length = 0 := by rw [hus, hA, h2]; rfl
        repeat' first | refine TW.seq ?_ | refine TW.block ?_ | refine TW.skip ?_ | refine TW.exit ?_ | refine TW.condF hP rfl ?_ | (refine TW.regG hP (by simp [hlen] <;> rfl) ?_; dsimp only [goK]) | simp only [q0a, q0f, ↓reduceIte, reduceCtorEq]
        refine ⟨(), rfl, ?_, ?_⟩
        · repeat' first | exact q0c | refine q0b (by simp) ?_
        · have := RowIs.self hq hrj
          simpa [q4c, hA, h2] using this
  clear hL hL2 hul e1
  rintro - m0 h0r
  have hnx0 := h0r.1
  have hc0 : m0.get c = _ := (h0r.2.2 c hcq).trans hc
  have ha0 := IntO.locl _ m0 _ _ ha (fun _ h => h) fun s hs => h0r.2.2 s (hSj s (hsa s hs).1).1
  have hL2 := fun t o => q2n (C := Ctx.of Tryz.prog gl K) (t := t) (o := o) h0r.2.1 (q2u hrows rfl) (q3i hrj)
  obtain ⟨z1, z2, z3, z4⟩ := ha0.len
  have hlv := fun h => q3F (C := Ctx.of Tryz.prog gl K) (t := q0u) (h := h) z1 z2
  dsimp only [q0u] at hlv
  repeat' first | refine TW.seq ?_ | refine TW.block ?_ | (refine TW.regG hP (by simp [hL2, q0L, q1h, hlv] <;> rfl) ?_; dsimp only [goK])
  have hmem : ∀ i : Nat, (((x.args.list.take i).map T ++ x.args.list.drop i) : List Int).length = x.args.list.length := fun i => by simp; omega
  refine TW.loopL (fun k : Nat => [(1, .ptr q (j * 7)), (2, .ptr c 0), (42, va), (43, .int .i64 x.args.list.length), (44, .int .i64 k)]) (fun k m => k ≤ x.args.list.length ∧ m.nx = m0.nx ∧ (∀ s, ¬ Sa s → m.get s = m0.get s) ∧ IntO OffF va ((x.args.list.take k).map T ++ x.args.list.drop k) m Sa) (fun k => x.args.list.length - k) (0) ?_ ?_ ?_
  focus (repeat' first | exact q0c | refine q0b (by simp) ?_)
  · exact ⟨Nat.zero_le _, rfl, fun _ _ => rfl, by simpa using ha0⟩
  rintro k m ⟨hk, hn, hs, hi⟩
  have hqa : ¬ Sa q := fun h => (hSj q (hsa q h).1).1 rfl
  have hca : ¬ Sa c := fun h => (hSj c (hsa c h).1).2.1 rfl
  have hcm : m.get c = _ := (hs c hca).trans hc0
  have hqm : m.get q = _ := (hs q hqa).trans h0r.2.1
  repeat' first | refine TW.seq ?_ | (refine TW.regG hP (by simp <;> rfl) ?_; dsimp only [goK])
  refine TW.cond hP rfl (fun hc => TW.skip ?_) (fun hc => TW.exit ?_)
  · simp at hc
    rename_i hcell
    obtain ⟨r, hr⟩ := q0g hc
    have hr2 := z0y (f := T) hr
    have hst := z0w (f := T) hr
    have hlk := hmem k
    rcases hi with ⟨he, _⟩ | ⟨ra, fa, hfa, hne, hva, hra, hg⟩
    · rw [he] at hlk; simp at hlk; omega
    rw [hlk] at hva
    subst hva
    generalize hL : (x.args.list.take k).map T ++ x.args.list.drop k = L at hr2 hst hlk hne hg
    have hraq : ¬ ra = q := fun e => hqa (e ▸ hra)
    have hrac : ¬ ra = c := fun e => hca (e ▸ hra)
    have hran := (hSj ra (hsa ra hra).1).2.2
    have er := hto.pure r (hx.rg r (List.mem_of_getElem? hr))
    have hG2 := fun (gl : Nat → AV) (K : Knob) => (q5K (P := Tryz.prog) (gl := gl) (K := K)).trans hfn
    have hr3 := (List.getElem?_eq_some_iff.1 hr2).2
    have hlx := hx.len
    dsimp only [q0C] at hg
    dsimp only [q0a]
    refine TW.seq ?_
    refine TW.block ?_
    refine TW.seq (TW.regG hP (by simp [hg, hr3, hc, hlk] <;> rfl) ?_)
    dsimp only [goK, q0a, q0f, q0d]
    have hL2 := fun t o => q2n (h := m.up) (C := Ctx.of Tryz.prog gl (K.tell [(tf, .int .i64 r :: caps, .int .i64 (T r))])) (t := t) (o := o) (by rw [q2K]; exact hqm) (q2u hrows rfl) (q3i hrj)
    have hSt := storeI (h := m.up) (C := Ctx.of Tryz.prog gl (K.tell [(tf, .int .i64 r :: caps, .int .i64 (T r))])) (v := T r) (by rw [q2K]; exact hg) hr2
    try refine TW.seq ?_
    refine TW.drawH hP [(tf, (AV.int .i64 r :: caps), .int .i64 (T r))] (fun e he => by rcases List.mem_cons.1 he with rfl | he; exact er; cases he) [0, 1, 3, 7, 0, 0, 0, 96, 255, 511] (by kernel_rfl) (by kernel_rfl) (by simp [hX, hcm, hL2, q0L, q1h, hSt, -storeAt, sz1, hG2, hfb, hc, (show ¬ m.nx ≤ c by omega), (show ¬ m.nx ≤ ra by omega), hraq, hrac, oneD, fpAt, fpOf, q0v, ldOf, q0T, q0m, FP.clash, FP.hard, FP.soft, overlap, inR, q0A, q1T, Nat.testBit] <;> rfl) ?_
    repeat' (refine q1A (fun hb => ?_) (fun hb => ?_) <;> (try simp only [Bool.not_eq_eq_eq_not, Bool.not_true, Bool.not_false] at hb) <;> refine q4H (by simp [hb, hX, hcm, hL2, q0L, q1h, hSt, -storeAt, sz1, hG2, hfb, hc, (show ¬ m.nx ≤ c by omega), (show ¬ m.nx ≤ q by omega), (show ¬ m.nx ≤ ra by omega), hcq, (show ¬ q = c by omega), hraq, hrac, (show ¬ q = ra by omega), (show ¬ c = ra by omega), oneD, fpAt, fpOf, q0v, ldOf, q0T, q0m, FP.clash, FP.hard, FP.soft, overlap, inR, q0A, q1T, Nat.testBit, show ¬ m.nx + 1 ≤ m.nx by omega, show ¬ m.nx + 2 ≤ m.nx by omega, show ¬ m.nx + 2 ≤ m.nx + 1 by omega, show ¬ m.nx + 3 ≤ m.nx by omega, show ¬ m.nx + 3 ≤ m.nx + 1 by omega, show ¬ m.nx + 3 ≤ m.nx + 2 by omega] <;> rfl) ?_)
    all_goals dsimp only [okD, q0a]
    repeat' first | (refine TW.regG hP (by simp <;> rfl) ?_; dsimp only [goK]) | simp only [q0d]
    refine ⟨k + 1, by omega, trivial, ?_, by omega, by rw [nx_z, nx_put]; exact hn, fun s h => ?_, .inr ⟨ra, fa, hfa, ?_, ?_, hra, ?_⟩⟩
    · repeat' first | exact q0c | refine q0b (by simp [w64s (show k < 9000000000000000000 by omega)]) ?_
    · rw [q1F, get_put, if_neg (fun e : ra = s => h (e ▸ hra))]; exact hs s h
    · intro e; have := hmem (k + 1); rw [e] at this; simp at this; omega
    · rw [hmem (k + 1)]
    · rw [q1F, get_put, if_pos rfl, ← hst, List.map_set]
  · simp at hc
    have hk2 : k = x.args.list.length := by omega
    subst hk2
    rw [List.take_length, List.drop_length, List.append_nil] at hi
    dsimp only [q0a]
    repeat' first | simp only [q0f, q0d, ↓reduceIte]
    refine ⟨.inl rfl, m, [], rfl, rfl, _, ?_, hqm, ⟨va, vf, Sa, Sf, rfl, hi, ?_, hsa, hsf⟩, by omega, fun s h1 h2 h3 => (hs s fun h => h3 (hsa s h).1).trans (h0r.2.2 s h2)⟩
    · rfl
    · refine IntO.locl g _ _ _ hf (fun _ h => h) fun s h => ?_
      rw [hs s fun h2 => (hsa s h2).2 h]
      exact h0r.2.2 s (hSj s (hsf s h)).1
end Go.Ax
