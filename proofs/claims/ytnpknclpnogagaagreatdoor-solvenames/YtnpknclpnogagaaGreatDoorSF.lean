/- slices.SortedFunc(maps.Keys(edges), ..): all that it may answer. Nothing is assumed. -/
import Derived.Test.YtnpknclpnogagaaGreatDoorProg
import Derived.Test.YtnpknclpnogagaaGreatDoorMt
set_option linter.unusedSimpArgs false
set_option linter.unusedVariables false
/- Facts on types and functions. -/
noncomputable section
namespace Go.Ax
open Go.Proofs
variable {gl : Nat → AV} {K : Knob}
theorem ti_of {P : Program} {gl : Nat → AV} {K : Knob} {t : TypeId} (ht : Nat.blt t P.types.size = true) : (Ctx.of P gl K).ti t = mkTI P t := by
  unfold Ctx.ti
  simp only [Ctx.of]
  rw [trOf_get, if_pos (show t < P.types.size from Nat.le_of_ble_eq_true ht)]
  cases mkTI P t <;> rfl
theorem ti3 : (Ctx.of Tryz.prog gl K).ti 3 = some { desc := .int .i64, size := 1, isAgg := false, zero := [.int .i64 0], zeroOk := true, bytes := 8, comparable := true, zv := .int .i64 0 } := (ti_of (by kernel_rfl)).trans (by kernel_rfl)
attribute [simp] ti3
theorem ti4 : (Ctx.of Tryz.prog gl K).ti 4 = some { desc := .bool, size := 1, isAgg := false, zero := [.bool false], zeroOk := true, bytes := 1, comparable := true, zv := .bool false } := (ti_of (by kernel_rfl)).trans (by kernel_rfl)
attribute [simp] ti4
theorem ti65 : (Ctx.of Tryz.prog gl K).ti 65 = some { desc := .map 141 3, size := 1, isAgg := false, zero := [.nilmap], zeroOk := true, bytes := 8, comparable := false, zv := .nilmap } := (ti_of (by kernel_rfl)).trans (by kernel_rfl)
attribute [simp] ti65
theorem ti138 : (Ctx.of Tryz.prog gl K).ti 138 = some { desc := .slice 141, size := 1, isAgg := false, zero := [.nilsl], zeroOk := true, bytes := 24, comparable := false, zv := .nilsl } := (ti_of (by kernel_rfl)).trans (by kernel_rfl)
attribute [simp] ti138
theorem ti141 : (Ctx.of Tryz.prog gl K).ti 141 = some { desc := .struct #[{ name := "from", type := 3, offset := 0, embedded := false, tag := "", pkgPath := "fescue/solve", byteOffset := 0 }, { name := "to", type := 3, offset := 1, embedded := false, tag := "", pkgPath := "fescue/solve", byteOffset := 8 }], size := 2, isAgg := true, zero := [.int .i64 0, .int .i64 0], zeroOk := true, bytes := 16, comparable := true, zv := .agg [.int .i64 0, .int .i64 0] } := (ti_of (by kernel_rfl)).trans (by kernel_rfl)
attribute [simp] ti141
abbrev N_SF : FuncId := 62
theorem E_SF : Tryz.prog.funcs[N_SF]? = some Tryz.f62 := Tryz.func62
theorem I_SF : IsFn Tryz.prog N_SF := ⟨_, _, Tryz.func62, rfl⟩
abbrev N_CO : FuncId := 109
theorem E_CO : Tryz.prog.funcs[N_CO]? = some Tryz.f109 := Tryz.func109
theorem I_CO : IsFn Tryz.prog N_CO := ⟨_, _, Tryz.func109, rfl⟩
abbrev N_AS : FuncId := 158
theorem E_AS : Tryz.prog.funcs[N_AS]? = some Tryz.f158 := Tryz.func158
theorem I_AS : IsFn Tryz.prog N_AS := ⟨_, _, Tryz.func158, rfl⟩
abbrev N_K1 : FuncId := 111
theorem E_K1 : Tryz.prog.funcs[N_K1]? = some Tryz.f111 := Tryz.func111
theorem I_K1 : IsFn Tryz.prog N_K1 := ⟨_, _, Tryz.func111, rfl⟩
abbrev N_SO : FuncId := 110
theorem E_SO : Tryz.prog.funcs[N_SO]? = some Tryz.f110 := Tryz.func110
theorem I_SO : IsFn Tryz.prog N_SO := ⟨_, _, Tryz.func110, rfl⟩
abbrev N_W1 : FuncId := 64
theorem E_W1 : Tryz.prog.funcs[N_W1]? = some Tryz.f64 := Tryz.func64
theorem I_W1 : IsFn Tryz.prog N_W1 := ⟨_, _, Tryz.func64, rfl⟩
end Go.Ax

/- The keys of a map, whose keys are pairs of ints, in whatever order: maps.Keys. -/
noncomputable section
namespace Go.Ax
open Go.Proofs
attribute [local irreducible] TW TO CallsT PureC RoundT
variable {F : Nat → Option Obj} {gl : Nat → AV} {K : Knob} {P : Program} {C : Ctx}
/-- Entries of a map whose keys are pairs. -/
abbrev Ent := (Int × Int) × AV × Nat
abbrev keyAV (k : Int × Int) : AV := .agg [.int .i64 k.1, .int .i64 k.2]
def entAV (e : Ent) : AV × AV × Nat := (keyAV e.1, e.2.1, e.2.2)
theorem nodup_len {α : Type} [DecidableEq α] : ∀ {l k : List α}, l.Nodup → (∀ x ∈ l, x ∈ k) → l.length ≤ k.length
  | [], _, _, _ => Nat.zero_le _
  | a :: l, k, h, hs => by
    obtain ⟨h1, h2⟩ := List.nodup_cons.1 h
    have ha := hs a List.mem_cons_self
    have := nodup_len (k := k.erase a) h2 fun x hx => (List.mem_erase_of_ne (fun (e : x = a) => h1 (by rw [← e]; exact hx))).2 (hs x (List.mem_cons_of_mem _ hx))
    have hl := List.length_erase_of_mem ha
    have hp : 0 < k.length := List.length_pos_of_mem ha
    simp only [List.length_cons]
    omega
theorem born_inj : ∀ {L : List Ent}, (L.map (·.2.2)).Nodup → ∀ {e e' : Ent}, e ∈ L → e' ∈ L → e.2.2 = e'.2.2 → e = e'
  | [], _, _, _, h, _, _ => by cases h
  | a :: L, hn, e, e', h, h', he => by
    rw [List.map_cons] at hn
    obtain ⟨h1, h2⟩ := List.nodup_cons.1 hn
    rcases List.mem_cons.1 h with ha | ha
    · rcases List.mem_cons.1 h' with hb | hb
      · rw [ha, hb]
      · exact absurd (show a.2.2 ∈ L.map (·.2.2) by rw [← ha, he]; exact List.mem_map_of_mem hb) h1
    · rcases List.mem_cons.1 h' with hb | hb
      · exact absurd (show a.2.2 ∈ L.map (·.2.2) by rw [← hb, ← he]; exact List.mem_map_of_mem ha) h1
      · exact born_inj h2 ha hb he
theorem nodup_of_map {α β : Type} (f : α → β) : ∀ {l : List α}, (l.map f).Nodup → l.Nodup
  | [], _ => List.nodup_nil
  | a :: l, h => by
    rw [List.map_cons] at h
    obtain ⟨h1, h2⟩ := List.nodup_cons.1 h
    exact List.nodup_cons.2 ⟨fun hm => h1 (List.mem_map_of_mem hm), nodup_of_map f h2⟩
theorem findB_ents : ∀ {L : List Ent}, (L.map (·.2.2)).Nodup → ∀ {e : Ent}, e ∈ L → findB e.2.2 (L.map entAV) = some (keyAV e.1, e.2.1)
  | [], _, _, h => by cases h
  | a :: L, hn, e, h => by
    have hn0 := hn
    rw [List.map_cons] at hn
    obtain ⟨h1, h2⟩ := List.nodup_cons.1 hn
    rw [List.map_cons]
    show (bif Nat.beq a.2.2 e.2.2 then some (keyAV a.1, a.2.1) else findB e.2.2 (L.map entAV)) = _
    cases hb : Nat.beq a.2.2 e.2.2 with
    | true => rw [born_inj hn0 List.mem_cons_self h (Nat.eq_of_beq_eq_true hb)]; rfl
    | false =>
      rcases List.mem_cons.1 h with rfl | h
      · rw [Nat.beq_refl] at hb; cases hb
      · exact findB_ents h2 h
theorem next_ents {g : Hp} {it r clock : Nat} {seen : List Nat} {L : List Ent} (h1 : g.get it = some (.miter r clock seen clock)) (h2 : g.get r = some (.map (L.map entAV) clock)) (hb : ∀ e ∈ L, e.2.2 < clock) :
    ∃ N, nextN (.ptr it 0) g = some N ∧ ∀ x ∈ N, ((∀ e ∈ L, e.2.2 ∈ seen) ∧ x = (.tup [.bool false], g)) ∨ (∃ e ∈ L, e.2.2 ∉ seen ∧ x = (.tup [.bool true, keyAV e.1, e.2.1], g.put it (.miter r clock (seen ++ [e.2.2]) clock))) := by
  unfold nextN
  simp only [h1, h2]
  have hg : (!seen.isEmpty && (!(L.map entAV).isEmpty && (L.map entAV).all fun e => Nat.ble clock e.2.2)) = false := by
    cases L with
    | nil => simp
    | cons a L =>
      have := hb a List.mem_cons_self
      have h3 : Nat.ble clock (entAV a).2.2 = false := by
        cases h : Nat.ble clock (entAV a).2.2 with
        | false => rfl
        | true => have := Nat.le_of_ble_eq_true h; simp [entAV] at this; omega
      simp only [List.map_cons, List.all_cons, h3, Bool.false_and, Bool.and_false]
  rw [hg, cond_false]
  split
  · rename_i hl
    refine ⟨_, rfl, fun x hx => .inl ⟨fun e he => ?_, List.mem_singleton.1 hx⟩⟩
    have := List.filter_eq_nil_iff.1 hl (entAV e) (List.mem_map_of_mem he)
    simpa [entAV] using this
  · have hall : ((leftM seen (L.map entAV)).all fun e => Nat.blt e.2.2 clock) = true := by
      rw [List.all_eq_true]
      intro x hx
      obtain ⟨e, he, rfl⟩ := List.mem_map.1 (List.mem_filter.1 hx).1
      exact Nat.ble_eq_true_of_le (hb e he)
    rw [hall, cond_true]
    refine ⟨_, rfl, fun x hx => .inr ?_⟩
    obtain ⟨y, hy, rfl⟩ := List.mem_map.1 hx
    obtain ⟨hy1, hy2⟩ := List.mem_filter.1 hy
    obtain ⟨e, he, rfl⟩ := List.mem_map.1 hy1
    exact ⟨e, he, by simpa [entAV] using hy2, rfl⟩
section ops
variable {ih : Code → St → Res} {st : St} {dd : Option Nat} {ty t : TypeId} {pos : String} {aft : Array Edge} {gd : Option (Nat × Bool)} {x : Operand}
theorem a_entry : opA P C ih st ⟨dd, .entry x, ty, pos, aft, gd⟩ = (entryM (st.ev C x) st.h).map fun v => .val v st.h := ov_map
theorem a_range : opA P C ih st ⟨dd, .range t x, ty, pos, aft, gd⟩ = (rangeA C t (st.ev C x) st.h).map fun r => .val r.1 r.2 := ov_map
end ops
attribute [simp] a_entry a_range
theorem entry_ents {g : Hp} {it r clock : Nat} {seen : List Nat} {L : List Ent} {e : Ent} (h1 : g.get it = some (.miter r clock (seen ++ [e.2.2]) clock)) (h2 : g.get r = some (.map (L.map entAV) clock)) (hn : (L.map (·.2.2)).Nodup) (he : e ∈ L) :
    entryM (.ptr it 0) g = some (.tup [keyAV e.1, e.2.1]) := by
  unfold entryM
  simp only [h1, h2, List.getLast?_append, List.getLast?_singleton, Option.some_or]
  rw [Nat.beq_refl, cond_true, findB_ents hn he]
theorem keys1T (hP : POk Tryz.prog F gl K) {h : Hp} {lp q r clock b0 : Nat} {L : List Ent} (J : List (Int × Int) → Hp → Prop)
    (hq : h.get q = some (.cells 65 [.map r])) (hr : h.get r = some (.map (L.map entAV) clock)) (hqb : q < b0) (hrb : r < b0) (hb0 : b0 ≤ h.nx) (hb : ∀ e ∈ L, e.2.2 < clock) (hnd : (L.map (·.2.2)).Nodup)
    (hst : ∀ ks g g', J ks g → g.nx ≤ g'.nx → (∀ s, s < g.nx → s ≠ h.nx → g'.get s = g.get s) → J ks g') (h0 : J [] h)
    (hy : ∀ ks x g, J ks g → ks.length < L.length → h.nx < g.nx → RoundT Tryz.prog F g (fun v g' => v = .bool true ∧ J (ks ++ [x]) g' ∧ g.nx ≤ g'.nx ∧ (∀ s, s < b0 ∨ s = h.nx → g'.get s = g.get s)) lp [keyAV x]) :
    CallsT Tryz.prog F h (fun _ g => ∃ ks, ks.Perm (L.map (·.1)) ∧ J ks g) N_K1 [.fn (.yield lp) [] [], .ptr q 0] := by
  refine CallsT.body hP nix_sound E_K1 rfl rfl ?_
  have hrg : rangeA (Ctx.of Tryz.prog gl K) 65 (.map r) h = some (.ptr h.nx 0, h.new (.miter r clock [] clock)) := by
    unfold rangeA
    simp [hr]
  refine TW.seq (TW.reg hP (by simp [hq, hrg] <;> rfl) ?_)
  dsimp only [goK, thenQ, blockQ, roundL]
  refine TW.block (TW.loopL (fun _ : List Ent => [(0, .fn (.yield lp) [] []), (5, .ptr h.nx 0)])
    (fun ds g => J (ds.map (·.1)) g ∧ h.nx < g.nx ∧ g.get h.nx = some (.miter r clock (ds.map (·.2.2)) clock) ∧ g.get r = some (.map (L.map entAV) clock) ∧ (∀ e ∈ ds, e ∈ L) ∧ (ds.map (·.2.2)).Nodup)
    (fun ds => L.length - ds.length) [] ?_ ⟨?_, ?_, ?_, ?_, ?_, ?_⟩ ?_)
  · repeat' first | exact less_nil | refine less_cons (by simp) ?_
  · exact hst [] h _ h0 (by simp) fun s hs _ => by simp [show ¬ h.nx = s by omega]
  · simp
  · simp
  · simp [show ¬ h.nx = r by omega, hr]
  · intro e he; cases he
  · simp
  rintro ds g ⟨hJ, hnx, hit, hmp, hsub, hdn⟩
  obtain ⟨N, hN, hNm⟩ := next_ents hit hmp hb
  refine TW.seq (TW.region ?_)
  refine TO.nextN hP (by simp) hN (by simp) fun v g1 hm => ?_
  rcases hNm _ hm with ⟨hall, hx⟩ | ⟨e, he, hne, hx⟩
  · cases hx
    refine TO.runs hP (by simp <;> rfl) ?_
    dsimp only [goK, thenQ, blockQ, roundL]
    refine TW.seq (TW.condF hP rfl (TW.exit ?_))
    simp only [thenQ, roundL, blockQ, ↓reduceIte, Nat.reduceEqDiff, reduceCtorEq]
    refine ⟨.inl rfl, g, [], rfl, rfl, ds.map (·.1), ?_, hJ⟩
    refine List.Perm.map _ ((List.perm_ext_iff_of_nodup ?_ ?_).2 fun a => ⟨hsub a, fun ha => ?_⟩)
    · exact nodup_of_map _ hdn
    · exact nodup_of_map _ hnd
    · obtain ⟨e', he', hee⟩ := List.mem_map.1 (hall a ha)
      rw [← born_inj hnd (hsub e' he') ha hee]; exact he'
  · cases hx
    have hit2 : (g.put h.nx (.miter r clock (ds.map (·.2.2) ++ [e.2.2]) clock)).get h.nx = some (.miter r clock (ds.map (·.2.2) ++ [e.2.2]) clock) := by simp
    have hmp2 : (g.put h.nx (.miter r clock (ds.map (·.2.2) ++ [e.2.2]) clock)).get r = some (.map (L.map entAV) clock) := by simp [show ¬ h.nx = r by omega, hmp]
    have hen := entry_ents hit2 hmp2 hnd he
    have hdl : ds.length < L.length := by
      have h1 : (ds.map (·.2.2) ++ [e.2.2]).Nodup := List.nodup_append.2 ⟨hdn, by simp, fun a ha b hb hab => by simp at hb; subst hb; exact hne (hab ▸ ha)⟩
      have := nodup_len (k := L.map (·.2.2)) h1 (fun x hx => by
        rcases List.mem_append.1 hx with hx | hx
        · obtain ⟨e', he', rfl⟩ := List.mem_map.1 hx; exact List.mem_map_of_mem (hsub e' he')
        · rw [List.mem_singleton.1 hx]; exact List.mem_map_of_mem he)
      simp at this; omega
    generalize hG : g.put h.nx (.miter r clock (ds.map (·.2.2) ++ [e.2.2]) clock) = G at hit2 hmp2 hen
    have hGn : G.nx = g.nx := by rw [← hG]; rfl
    have hJ2 : J (ds.map (·.1)) G := hst _ g G hJ (by omega) fun s hs hne' => by rw [← hG]; simp [show ¬ h.nx = s by omega]
    refine TO.runs hP (by simp <;> rfl) ?_
    dsimp only [goK, thenQ, blockQ, roundL]
    refine TW.seq (TW.condT hP rfl (TW.skip ?_))
    simp only [thenQ]
    refine TW.block ?_
    refine TW.seq (TW.reg hP (by simp [hen] <;> rfl) ?_)
    dsimp only [goK, thenQ, blockQ, roundL]
    refine TW.seq (TW.region ?_)
    refine TO.runs hP (by simp [keyAV] <;> rfl) ?_
    dsimp only [goK]
    refine TO.ycall hP (by simp) rfl rfl rfl (hy (ds.map (·.1)) e.1 _ (hst _ G _ hJ2 (by simp <;> omega) fun s hs hne' => by simp [show ¬ G.nx = s by omega]) (by simpa using hdl) (by simp <;> omega)) ?_
    rintro v g2 ⟨rfl, hJ3, hnx3, hk3⟩
    refine TO.runs hP (by simp <;> rfl) ?_
    dsimp only [goK, thenQ, blockQ, roundL]
    refine TW.condF hP rfl (TW.skip ?_)
    dsimp only [thenQ, roundL, blockQ]
    refine ⟨ds ++ [e], by simp; omega, rfl, ?_, ?_, ?_, ?_, ?_, ?_, ?_⟩
    · repeat' first | exact less_nil | refine less_cons (by simp) ?_
    · simpa using hJ3
    · simp at hnx3; omega
    · rw [hk3 _ (.inr rfl)]; simp [show ¬ G.nx = h.nx by omega, hit2]
    · rw [hk3 _ (.inl hrb)]; simp [show ¬ G.nx = r by omega, hmp2]
    · intro x hx
      rcases List.mem_append.1 hx with hx | hx
      · exact hsub x hx
      · rw [List.mem_singleton.1 hx]; exact he
    · rw [List.map_append]
      exact List.nodup_append.2 ⟨hdn, by simp, fun a ha b hb hab => by simp at hb; subst hb; exact hne (hab ▸ ha)⟩
end Go.Ax

/- slices.AppendSeq, slices.Collect of a map's keys that are pairs. -/
noncomputable section
namespace Go.Ax
open Go.Proofs
attribute [local irreducible] TW TO CallsT PureC RoundT
variable {F : Nat → Option Obj} {gl : Nat → AV} {K : Knob} {P : Program} {C : Ctx}
abbrev rowK (k : Int × Int) : List AV := [.int .i64 k.1, .int .i64 k.2]
theorem slt_es : slT (Ctx.of Tryz.prog gl K) 138 141 2 = true := by simp [slT]
theorem kn_set {tm0 : Tr AV} {l : Kn} {i : Nat} {u : AV} (htm : ∀ t v, kn l t = some v → tget tm0 t = v) : ∀ t v, kn ((i, u) :: l) t = some v → tget (tm0.set i u) t = v := fun t v hk => by
  rw [kn_cons] at hk
  rw [tget_set]
  split at hk
  · rename_i h; cases hk; rw [if_pos h]
  · rename_i h; rw [if_neg h]; exact htm t v hk
theorem Own.same {es : Nat} {eT : TypeId} {b : Nat} {h g : Hp} {v : AV} {rows : List (List AV)} (ho : Own es eT b h v rows) (hn : h.nx ≤ g.nx) (hs : ∀ s, b ≤ s → s < h.nx → g.get s = h.get s) : Own es eT b g v rows := by
  rcases ho with h1 | ⟨h1, r, h2, h3, h4, h5⟩
  · exact .inl h1
  · exact .inr ⟨h1, r, h2, by omega, h4, (hs r h2 h3).trans h5⟩
theorem Own.cell {es : Nat} {eT : TypeId} {b : Nat} {h : Hp} {v : AV} {rows : List (List AV)} (ho : Own es eT b h v rows) : cellsOf v = some [v] ∧ isCell v = true := by
  rcases ho with ⟨rfl, _⟩ | ⟨_, r, _, _, rfl, _⟩ <;> exact ⟨rfl, rfl⟩
/-- Between two rounds: so many keys have come. -/
structure JJ (h : Hp) (tm0 : Tr AV) (A B : Code) (ks : List (Int × Int)) (g : Hp) : Prop where
  wid : Wid h g
  box : ∃ v, g.get h.nx = some (.cells 138 [v]) ∧ Own 2 141 (h.nx + 4) g v (ks.map rowK)
  dd : g.get (h.nx + 1) = some (.defd (some []))
  lp : g.get (h.nx + 2) = some (.loop .ready none tm0 13 [7] A B (h.nx + 1))
  nx : h.nx + 3 ≤ g.nx
theorem JJ.stable {h : Hp} {tm0 : Tr AV} {A B : Code} {ks : List (Int × Int)} {g g' : Hp} (hJ : JJ h tm0 A B ks g) (hn : g.nx ≤ g'.nx) (hs : ∀ s, s < g.nx → s ≠ h.nx + 3 → g'.get s = g.get s) : JJ h tm0 A B ks g' := by
  obtain ⟨h1, ⟨v, h2, h3⟩, h4, h5, h6⟩ := hJ
  exact ⟨⟨by have := h1.nx; omega, fun r hr => (hs r (by omega) (by omega)).trans (h1.get r hr)⟩, ⟨v, (hs _ (by omega) (by omega)).trans h2, h3.same hn fun s hb hl => hs s hl (by omega)⟩, (hs _ (by omega) (by omega)).trans h4, (hs _ (by omega) (by omega)).trans h5, by omega⟩
theorem coreT (hP : POk Tryz.prog F gl K) {h : Hp} {q r clock : Nat} {L : List Ent} {tm0 : Tr AV} {A B : Code}
    (hq : h.get q = some (.cells 65 [.map r])) (hr : h.get r = some (.map (L.map entAV) clock)) (hqn : q < h.nx) (hrn : r < h.nx) (hb : ∀ e ∈ L, e.2.2 < clock) (hnd : (L.map (·.2.2)).Nodup)
    (hy : ∀ ks x g, JJ h tm0 A B ks g → ks.length < L.length → h.nx + 4 ≤ g.nx → RoundT Tryz.prog F g (fun v g' => v = .bool true ∧ JJ h tm0 A B (ks ++ [x]) g' ∧ g.nx ≤ g'.nx ∧ (∀ s, s < h.nx ∨ s = h.nx + 3 → g'.get s = g.get s)) (h.nx + 2) [keyAV x]) :
    CallsT Tryz.prog F (((h.new (.cells 138 [.nilsl])).new (.defd (some []))).new (.loop .ready none tm0 13 [7] A B (h.nx + 1))) (fun _ g => ∃ ks, ks.Perm (L.map (·.1)) ∧ JJ h tm0 A B ks g) N_K1 [.fn (.yield (h.nx + 2)) [] [], .ptr q 0] := by
  refine keys1T hP (b0 := h.nx) (r := r) (clock := clock) (L := L) (fun ks g => JJ h tm0 A B ks g) ?_ ?_ hqn hrn (by simp; omega) hb hnd (fun ks g g' hJ hn hs => hJ.stable hn fun s h1 h2 => hs s h1 (by simpa using h2)) ⟨?_, ?_, ?_, ?_, ?_⟩ ?_
  · simp [show ¬ h.nx = q by omega, show ¬ h.nx + 1 = q by omega, show ¬ h.nx + 2 = q by omega, hq]
  · simp [show ¬ h.nx = r by omega, show ¬ h.nx + 1 = r by omega, show ¬ h.nx + 2 = r by omega, hr]
  · exact (((Wid.refl h).new _).new _).new _
  · exact ⟨.nilsl, by simp [show ¬ h.nx + 1 + 1 = h.nx by omega], .nil⟩
  · simp
  · simp
  · simp
  · intro ks x g hJ hk hn
    refine (hy ks x g hJ hk (by simp at hn; omega))
theorem appseqT (hP : POk Tryz.prog F gl K) {h : Hp} {q r clock : Nat} {L : List Ent}
    (hq : h.get q = some (.cells 65 [.map r])) (hr : h.get r = some (.map (L.map entAV) clock)) (hqn : q < h.nx) (hrn : r < h.nx) (hb : ∀ e ∈ L, e.2.2 < clock) (hnd : (L.map (·.2.2)).Nodup) (hlen : L.length < 1000000) :
    CallsT Tryz.prog F h (fun v g => ∃ ks : List (Int × Int), ks.Perm (L.map (·.1)) ∧ Wid h g ∧ Own 2 141 (h.nx + 4) g v (ks.map rowK)) N_AS [.nilsl, .fn (.func N_K1) [] [.ptr q 0]] := by
  refine CallsT.body hP nix_sound E_AS rfl rfl ?_
  refine TW.seq (TW.reg hP (by simp <;> rfl) ?_)
  dsimp only [goK, thenQ, blockQ, roundL]
  refine TW.seq (TW.seq (TW.reg hP (by simp <;> rfl) ?_))
  dsimp only [goK, thenQ, blockQ, roundL]
  refine (TW.block (TW.rangeF hP rfl I_K1 fun tm0 htm => ?_))
  refine (coreT hP (tm0 := tm0) hq hr hqn hrn hb hnd ?_).mono ?_
  · rintro ks x g ⟨hw, ⟨v, hbx, hown⟩, hdd, hlp, hnx⟩ hk hn4
    refine RoundT.intro hlp rfl (by decide) _ (kn_set htm) ?_
    refine TW.reg hP (by simp [keyAV] <;> rfl) ?_
    dsimp only [goK]
    refine ⟨rfl, none, tm0, _, _, _, _, _, Eq.trans (b := g.get (h.nx + 2)) (by simp [show ¬ g.nx = h.nx + 2 by omega]) hlp, ?_⟩
    refine TW.gen (fun G => G.get h.nx = some (.cells 138 [v]) ∧ G.get g.nx = some (.cells 141 (rowK x)) ∧ (match g.get (h.nx + 2) with | some (.loop _ _ tm n ps A B d) => G.get (h.nx + 2) = some (.loop .busy none tm n ps A B d) | _ => False) ∧ G.get (h.nx + 1) = some (.defd (some [])) ∧ Own 2 141 (h.nx + 4) G v (ks.map rowK) ∧ G.nx = g.nx + 1 ∧ (∀ s, s < h.nx ∨ s = h.nx + 3 → G.get s = g.get s) ∧ Wid h G) ?_ ?_
    · have hs : ∀ o s, s < g.nx → s ≠ h.nx + 2 → (((g.new (.cells 141 [.int .i64 0, .int .i64 0])).put g.nx (.cells 141 (rowK x))).put (h.nx + 2) o).get s = g.get s := fun o s h1 h2 => by
        simp [show ¬ h.nx + 2 = s by omega, show ¬ g.nx = s by omega]
      refine ⟨(hs _ _ (by omega) (by omega)).trans hbx, by simp [show ¬ h.nx + 2 = g.nx by omega], by rw [hlp]; simp, (hs _ _ (by omega) (by omega)).trans hdd, hown.same (by simp) fun s h1 h2 => hs _ _ h2 (by omega), by simp, fun s h1 => hs _ _ (by omega) (by omega), ⟨by simp; have := hw.nx; omega, fun s h1 => (hs _ _ (by omega) (by omega)).trans (hw.get s h1)⟩⟩
    · rintro G ⟨g1, g2, g3, g4, g5, g6, g7, g8⟩
      rw [hlp] at g3
      dsimp only at g3
      obtain ⟨v', k', happ, hown', hwb, hkn⟩ := g5.push (row := rowK x) (slt_es (gl := gl) (K := K)) (fun c hc => by obtain ⟨_, _, rfl⟩ := List.mem_map.1 hc; rfl) rfl rfl (by simp; omega) (by omega)
      refine TW.block (TW.reg hP (by simp [g1, g2, happ, hwb.get _ (show h.nx < h.nx + 4 by omega), hown'.cell.1, hown'.cell.2] <;> rfl) ?_)
      dsimp only [goK, blockQ]
      have hlow : ∀ s, s < h.nx + 4 → s ≠ h.nx → (k'.put h.nx (.cells 138 [v'])).get s = G.get s := fun s h1 h2 => by
        rw [get_put, if_neg (by omega)]; exact hwb.get s h1
      refine ⟨none, tm0, 13, [7], _, _, h.nx + 1, (hlow _ (by omega) (by omega)).trans g3, ?_⟩
      dsimp only
      have hlow2 : ∀ o s, s < h.nx + 4 → s ≠ h.nx → s ≠ h.nx + 2 → ((k'.put h.nx (.cells 138 [v'])).put (h.nx + 2) o).get s = G.get s := fun o s h1 h2 h3 => by
        rw [get_put, if_neg (by omega)]; exact hlow s h1 h2
      refine ⟨rfl, ⟨⟨by simp; have := g8.nx; omega, fun s h1 => (hlow2 _ s (by omega) (by omega) (by omega)).trans (g8.get s h1)⟩, ⟨v', by simp [show ¬ h.nx + 2 = h.nx by omega], ?_⟩, (hlow2 _ _ (by omega) (by omega) (by omega)).trans g4, by simp, by simp; omega⟩, by simp; omega, fun s h1 => (hlow2 _ s (by omega) (by omega) (by omega)).trans (g7 s h1)⟩
      have := fun o => hown'.same (g := (k'.put h.nx (.cells 138 [v'])).put (h.nx + 2) o) (by simp) fun s h1 h2 => by rw [get_put, if_neg (by omega), get_put, if_neg (by omega)]
      simpa using this _
  · rintro _ g ⟨ks, hp, hw, ⟨v, hbx, hown⟩, hdd, hlp, hnx⟩
    refine ⟨.ready, none, tm0, _, _, _, _, _, hlp, nofun, ?_⟩
    dsimp only [blockQ, thenQ]
    have hlow : ∀ s, s ≠ h.nx + 2 → (g.put (h.nx + 2) .dead).get s = g.get s := fun s h1 => by rw [get_put, if_neg (by omega)]
    refine TW.seq (TW.reg hP (by simp [hlow, hbx] <;> rfl) ?_)
    dsimp only [goK, thenQ]
    refine TW.ret ⟨.inr rfl, (g.put (h.nx + 2) .dead).put (h.nx + 1) (.defd none), _, ?_, rfl, ks, hp, ?_, ?_⟩
    · unfold runDefs
      have : (g.put (h.nx + 2) .dead).get (h.nx + 1) = some (.defd (some [])) := (hlow _ (by omega)).trans hdd
      simp only [nx_new, this, runDefs]
    · exact (hw.put (by omega) _).put (by omega) _
    · exact hown.same (by simp) fun s h1 h2 => by rw [get_put, if_neg (by omega)]; exact hlow s (by omega)
end Go.Ax

/- slices.SortedFunc of a map's keys that are pairs, by their second ints: all its outcomes. -/
noncomputable section
namespace Go.Ax
open Go.Proofs
attribute [local irreducible] TW TO CallsT PureC RoundT
variable {F : Nat → Option Obj} {gl : Nat → AV} {K : Knob} {P : Program} {C : Ctx}
theorem collectT (hP : POk Tryz.prog F gl K) {h : Hp} {q r clock : Nat} {L : List Ent}
    (hq : h.get q = some (.cells 65 [.map r])) (hr : h.get r = some (.map (L.map entAV) clock)) (hqn : q < h.nx) (hrn : r < h.nx) (hb : ∀ e ∈ L, e.2.2 < clock) (hnd : (L.map (·.2.2)).Nodup) (hlen : L.length < 1000000) :
    CallsT Tryz.prog F h (fun v g => ∃ ks : List (Int × Int), ks.Perm (L.map (·.1)) ∧ Wid h g ∧ Own 2 141 (h.nx + 4) g v (ks.map rowK)) N_CO [.fn (.func N_K1) [] [.ptr q 0]] := by
  refine CallsT.body hP nix_sound E_CO rfl rfl ?_
  refine TW.seq (TW.reg hP (by simp <;> rfl) ?_)
  dsimp only [goK, thenQ, blockQ, roundL]
  refine TW.seq (TW.reg hP (by simp <;> rfl) ?_)
  dsimp only [goK, thenQ, blockQ, roundL]
  refine TO.ucall hP (by simp) rfl rfl rfl I_AS (appseqT hP hq hr hqn hrn hb hnd hlen) ?_
  rintro v g ⟨ks, hp, hw, hown⟩
  refine TO.runs hP (by simp <;> rfl) ?_
  dsimp only [goK, thenQ, blockQ, roundL]
  refine TW.ret ⟨.inr rfl, g, _, rfl, rfl, ks, hp, hw, hown⟩
theorem flat_rowK : ∀ ks : List (Int × Int), (ks.map rowK).flatten = flatI ks
  | [] => rfl
  | (a, b) :: l => by
    show [AV.int .i64 a, .int .i64 b] ++ (l.map rowK).flatten = _
    rw [flat_rowK l]; rfl
theorem sortedT (hP : POk Tryz.prog F gl K) (hS : PrimOk Tryz.prog F (sortFP N_SO N_W1)) {h : Hp} {q r clock : Nat} {L : List Ent}
    (hq : h.get q = some (.cells 65 [.map r])) (hr : h.get r = some (.map (L.map entAV) clock)) (hqn : q < h.nx) (hrn : r < h.nx) (hb : ∀ e ∈ L, e.2.2 < clock) (hnd : (L.map (·.2.2)).Nodup) (hlen : L.length ≤ 12) (hpos : 0 < L.length) (hsm : smallE (L.map (·.1)) = true) :
    CallsT Tryz.prog F h (fun v g => ∃ k ∈ sortsOf L.length (L.map (·.1)), ∃ s, h.nx ≤ s ∧ v = .sl s 0 L.length L.length 2 false ∧ g.get s = some (.cells 141 (flatI k)) ∧ Wid h g) N_SF [.fn (.func N_K1) [] [.ptr q 0], .fn (.func N_W1) [] []] := by
  refine CallsT.body hP nix_sound E_SF rfl rfl ?_
  refine TW.seq (TW.reg hP (by simp <;> rfl) ?_)
  dsimp only [goK, thenQ, blockQ, roundL]
  refine TW.seq (TW.reg hP (by simp <;> rfl) ?_)
  dsimp only [goK, thenQ, blockQ, roundL]
  refine TO.ucall hP (by simp) rfl rfl rfl I_CO (collectT hP hq hr hqn hrn hb hnd (by omega)) ?_
  rintro v g ⟨ks, hp, hw, hown⟩
  have hkl : ks.length = L.length := by have := hp.length_eq; simpa using this
  rcases hown with ⟨_, h0⟩ | ⟨hne, s, hs1, hs2, rfl, hg⟩
  · have : ks.length = 0 := by have := congrArg List.length h0; simpa using this
    omega
  rw [flat_rowK] at hg
  have hf := sortE_fact hp hsm
  have hsl : (sortE ks).toList.length = L.length := by have := hf.1.length_eq; simpa using this
  have hprim : sortFP N_SO N_W1 N_SO [.sl s 0 ks.length ks.length 2 false, .fn (.func N_W1) [] []] g = some (.tup [], g.put s (.cells 141 (flatI (sortE ks).toList))) := by
    unfold sortFP
    have h12 : Nat.ble ks.length 12 = true := Nat.ble_eq_true_of_le (by omega)
    have hpi : pairsI ks.length (flatI ks) = some ks := pairsI_flat ks
    have hbq : Nat.beq (sortE ks).toList.length ks.length = true := by rw [hsl, hkl]; exact Nat.beq_refl _
    have hdr : (flatI ks).drop (2 * ks.length) = [] := by rw [List.drop_eq_nil_iff, flatI_len]; exact Nat.le_refl _
    simp only [Nat.beq_refl, cond_true, h12, Bool.and_self, hg, hpi, hbq, hdr, List.append_nil]
  refine TO.runs hP (by simp <;> rfl) ?_
  dsimp only [goK, thenQ, blockQ, roundL]
  refine TW.seq (TW.reg hP (by simp <;> rfl) ?_)
  dsimp only [goK, thenQ, blockQ, roundL]
  obtain ⟨hle, hcall⟩ := hS _ _ _ _ _ hprim
  refine TO.ucall hP (by simp) rfl rfl rfl I_SO (CallsT.of_calling hle hcall) ?_
  rintro v g2 ⟨rfl, rfl⟩
  refine TO.runs hP (by simp <;> rfl) ?_
  dsimp only [goK, thenQ, blockQ, roundL]
  refine TW.seq (TW.reg hP (by simp <;> rfl) ?_)
  dsimp only [goK, thenQ, blockQ, roundL]
  refine TW.ret ⟨.inr rfl, _, _, rfl, rfl, (sortE ks).toList, ?_, s, by omega, by simp [tupOf, hkl], by simp, hw.put (by omega) _⟩
  have := sortE_mem hp hsm
  simpa using this
/-! ### As calls that are told -/
def entsOf : List (AV × AV × Nat) → Option (List Ent)
  | [] => some []
  | (.agg [.int .i64 a, .int .i64 b], v, n) :: l => (match entsOf l with | some k => some (((a, b), v, n) :: k) | none => none)
  | _ => none
def ltAll (c : Nat) : List Ent → Bool
  | [] => true
  | e :: l => Nat.blt e.2.2 c && ltAll c l
def borns : List Ent → List Nat
  | [] => []
  | e :: l => e.2.2 :: borns l
def keysE : List Ent → List (Int × Int)
  | [] => []
  | e :: l => e.1 :: keysE l
def outsE (h : Hp) (n : Nat) : List (List (Int × Int)) → Option (List (AV × Hp))
  | [] => some []
  | k :: l => (match laidS h 141 (flatI k), outsE h n l with
    | some H, some r => some ((.sl h.nx 0 n n 2 false, H) :: r)
    | _, _ => none)
def sortedEP (f : FuncId) (args : List AV) (h : Hp) : Option (List (AV × Hp)) :=
  bif Nat.beq f N_SF then (match args with
    | [.fn (.func g) [] [.ptr q 0], .fn (.func c) [] []] => bif Nat.beq g N_K1 && (Nat.beq c N_W1 && Nat.blt q h.nx) then (match h.get q with
      | some (.cells 65 [.map r]) => (match h.get r with
        | some (.map es clock) => (match entsOf es with
          | some L => bif Nat.blt r h.nx && (ltAll clock L && (nodupN (borns L) && (Nat.ble L.length 12 && (Nat.blt 0 L.length && smallE (keysE L))))) then outsE h L.length (sortsOf L.length (keysE L)) else none
          | none => none)
        | _ => none)
      | _ => none) else none
    | _ => none) else none
theorem entsOf_eq : ∀ {es : List (AV × AV × Nat)} {L : List Ent}, entsOf es = some L → es = L.map entAV
  | [], L, h => by cases h; rfl
  | (x, v, n) :: l, L, h => by
    unfold entsOf at h
    split at h
    · rename_i e; cases e
    · rename_i a b v' n' l' e
      cases e
      split at h
      · rename_i k hk
        cases h
        rw [entsOf_eq hk]; rfl
      · cases h
    · cases h
theorem borns_eq : ∀ L : List Ent, borns L = L.map (·.2.2)
  | [] => rfl
  | e :: l => by show e.2.2 :: borns l = _; rw [borns_eq l]; rfl
theorem keysE_eq : ∀ L : List Ent, keysE L = L.map (·.1)
  | [] => rfl
  | e :: l => by show e.1 :: keysE l = _; rw [keysE_eq l]; rfl
theorem ltAll_iff {c : Nat} : ∀ {L : List Ent}, ltAll c L = true → ∀ e ∈ L, e.2.2 < c
  | [], _, e, h => by cases h
  | a :: l, h, e, he => by
    unfold ltAll at h
    obtain ⟨h1, h2⟩ := and_bool h
    rcases List.mem_cons.1 he with rfl | he
    · exact Nat.le_of_ble_eq_true h1
    · exact ltAll_iff h2 e he
theorem outsE_mem {h : Hp} {n : Nat} : ∀ {K : List (List (Int × Int))} {O : List (AV × Hp)}, outsE h n K = some O → (∀ k ∈ K, ∃ H, laidS h 141 (flatI k) = some H ∧ (AV.sl h.nx 0 n n 2 false, H) ∈ O) ∧ ∀ o ∈ O, ∃ k ∈ K, laidS h 141 (flatI k) = some o.2
  | [], O, e => by cases e; exact ⟨nofun, nofun⟩
  | k :: K, O, e => by
    unfold outsE at e
    split at e
    case h_2 => cases e
    rename_i H r h1 h2
    cases e
    obtain ⟨g1, g2⟩ := outsE_mem h2
    refine ⟨fun x hx => ?_, fun o ho => ?_⟩
    · rcases List.mem_cons.1 hx with rfl | hx
      · exact ⟨H, h1, List.mem_cons_self⟩
      · obtain ⟨H', a, b⟩ := g1 x hx
        exact ⟨H', a, List.mem_cons_of_mem _ b⟩
    · rcases List.mem_cons.1 ho with rfl | ho
      · exact ⟨k, List.mem_cons_self, h1⟩
      · obtain ⟨k', a, b⟩ := g2 o ho
        exact ⟨k', List.mem_cons_of_mem _ a, b⟩
theorem laidS_le {h H : Hp} {eT : TypeId} {cs : List AV} (hl : laidS h eT cs = some H) : HpLe h H := by
  unfold laidS at hl
  split at hl
  case h_2 => cases hl
  rename_i t cs' ht hcs
  cases hl
  refine ⟨Nat.le_succ _, Nat.zero_le _, fun r _ h2 => absurd h2 (Nat.not_lt_zero _), fun _ q hq => ?_⟩
  have hq : h.nx + 1 ≤ q := hq
  cases hg : ({ nx := Nat.succ h.nx, m := t.set h.nx (.cells eT cs'), lo := 0 } : Hp).get q with
  | none => rfl
  | some o =>
    have hg : (t.set h.nx (.cells eT cs')).get q = some o := hg
    rw [Tr.get_set, if_neg (by omega)] at hg
    rcases oldT_get _ _ _ ht q o hg with h1 | h1
    · rw [Tr.get_e] at h1; cases h1
    · omega
/-- What is told of slices.SortedFunc is so. -/
theorem sortedEP_ok (hP : POk Tryz.prog F gl K) (hS : PrimOk Tryz.prog F (sortFP N_SO N_W1)) : PrN Tryz.prog F sortedEP := by
  intro f args h O hp
  unfold sortedEP at hp
  obtain ⟨hf, hp1⟩ := cond_some' hp
  clear hp
  obtain rfl := Nat.eq_of_beq_eq_true hf
  split at hp1
  case h_2 => cases hp1
  rename_i g q c
  obtain ⟨hc, hp2⟩ := cond_some' hp1
  clear hp1
  obtain ⟨hc1, hc⟩ := and_bool hc
  obtain ⟨hc2, hc3⟩ := and_bool hc
  obtain rfl := Nat.eq_of_beq_eq_true hc1
  obtain rfl := Nat.eq_of_beq_eq_true hc2
  split at hp2
  case h_2 => cases hp2
  rename_i r hq
  split at hp2
  case h_2 => cases hp2
  rename_i es clock hr
  split at hp2
  case h_2 => cases hp2
  rename_i L hL
  obtain ⟨hd, hp⟩ := cond_some' hp2
  clear hp2
  obtain ⟨d1, hd⟩ := and_bool hd
  obtain ⟨d2, hd⟩ := and_bool hd
  obtain ⟨d3, hd⟩ := and_bool hd
  obtain ⟨d4, hd⟩ := and_bool hd
  obtain ⟨d5, d6⟩ := and_bool hd
  obtain rfl := entsOf_eq hL
  obtain ⟨o1, o2⟩ := outsE_mem hp
  have nd := nodupN_iff d3
  rw [borns_eq] at nd
  rw [keysE_eq] at d6 o1
  refine ⟨I_SF, fun o ho => ?_, fun m w n cargs hR hA hF => ?_⟩
  · obtain ⟨k, _, hk⟩ := o2 o ho
    exact laidS_le hk
  · refine (sortedT hP hS hq hr (Nat.le_of_ble_eq_true hc3) (Nat.le_of_ble_eq_true d1) (ltAll_iff d2) nd (Nat.le_of_ble_eq_true d4) (Nat.le_of_ble_eq_true d5) d6).at hR hA hF |>.mono fun e w' he => ?_
    obtain ⟨v, G, ⟨k, hk, s, hs, rfl, hg, hw⟩, _, hh⟩ := he
    obtain ⟨H, hl, hm⟩ := o1 k hk
    exact ⟨_, hm, (heard_slice hF hw hs hg hl hh).2⟩
end Go.Ax
