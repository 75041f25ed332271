import Derived.Test.YtflfodegogjefaaGreatDoorV05
set_option linter.unusedSimpArgs false
set_option linter.unusedVariables false
set_option maxRecDepth 20000
noncomputable section
namespace Go.Ax
open Go.Proofs
attribute [local irreducible] TW TO CallsT q0y
variable {F : Nat → Option Obj} {gl : Nat → AV} {K : Knob} {S S' : Nat → Prop}
def rdI1 (p : LProg) (x : LFunc) (g : List Int) (bi : Nat) (y : LIns × Nat) : Bool := (q2f y.1).any fun u => in27 g u && !in27 g (q4e p x bi y.2)
def rdB1 (p : LProg) (x : LFunc) (g : List Int) (b : LBlock × Nat) : Bool := b.1.ins.list.zipIdx.any (rdI1 p x g b.2) || (q2g b.1.ed).any (in27 g)
def q7n (p : LProg) (x : LFunc) (g : List Int) : Bool := x.blocks.list.zipIdx.any (rdB1 p x g)
theorem slOf_pos {l : List Int} (h : 0 < l.length) : slOf l = .isl (l.map cI) := by cases l with | nil => simp at h | cons a l => rfl
theorem z1p {α : Type} {l : List α} {i : Nat} {x : α} {q : α → Bool} (h : l[i]? = some x) : (l.drop i).any q = (q x || (l.drop (i + 1)).any q) := by rw [drop_get h, List.any_cons]
theorem uses6_len (y : LIns) (h : y.args.list.length < 900000) : (q2f y).length < 900002 := by
 unfold q2f
 simp only [List.length_append]
 split <;> split <;> split <;> simp <;> omega
set_option maxHeartbeats 4000000 in
theorem read27_pure (hP : POk Tryz.prog F gl K) (hX : ∀ f a, K.ext f a = none) (p : LProg) (hs : SmallP p) (f : Nat) (x : LFunc) (hf : p.funcs.list[f]? = some x) (h0' : 0 ≤ x.sig) (h1' : x.sig < p.types.list.length) (gone : Sl Int) (hgl : gone.list.length < 1000000) :
    q0y Tryz.prog F q4U [.agg p.cells, .int .i64 f, gone.av cI] (.bool (q7n p x gone.list)) := by
  refine CallsT.pure (O := fun u _ => u = .bool (q7n p x gone.list)) (k := 1) (by simp) ?_ (fun u g e => by subst e; rfl)
  refine CallsT.body hP q0e E_fescueref27_read rfl rfl ?_
  have hav := q0z (e := LFunc.cells) (show 0 < p.funcs.list.length by have := (List.getElem?_eq_some_iff.1 hf).1; omega)
  have hsf := hs.funcs x (List.mem_of_getElem? hf)
  have hfb := hsf.blk
  repeat' first | refine TW.seq ?_ | refine TW.block ?_ | (refine TW.regG hP (by simp <;> rfl) ?_; dsimp only [goK])
  refine TW.loopL (fun i : Nat => [(1, .int .i64 f), (2, gone.av cI), (3, .ptr 0 0), (6, .bool false), (7, .int .i64 i)]) (fun i g => i ≤ x.blocks.list.length ∧ 1 ≤ g.nx ∧ g.get 0 = some (.cells q0k p.cells) ∧ q7n p x gone.list = (x.blocks.list.zipIdx.drop i).any (rdB1 p x gone.list)) (fun i => x.blocks.list.length - i) (0) ?_ ?_ ?_
  focus (repeat' first | exact q0c | refine q0b (by simp) ?_)
  · exact ⟨Nat.zero_le _, by simp, by simp, rfl⟩
  rintro i g ⟨hi, hnx, hg0, hall⟩
  dsimp only [q0k, LProg.cells] at hi hg0 hall ⊢
  repeat' first | refine TW.seq ?_ | (refine TW.regG hP (by simp [hg0, hf, hav] <;> rfl) ?_; dsimp only [goK]) | simp only [q0a]
  refine TW.cond hP rfl (fun hc => TW.skip ?_) (fun hc => TW.exit ?_)
  · simp at hc
    obtain ⟨b, hb⟩ := q0g hc
    have hbi := hc
    have hbm := List.mem_of_getElem? hb
    have hbv := q0z (e := LBlock.cells) (show 0 < x.blocks.list.length by omega)
    obtain ⟨hb1, hb2⟩ := hfb.2 b hbm
    rw [z1p (z0j hb)] at hall
    dsimp only [q0a]
    refine TW.seq ?_
    refine TW.block ?_
    refine TW.seq (TW.regG hP (by simp [hg0, hf, hav, hb, hbv] <;> rfl) ?_)
    dsimp only [goK, q0a, q0f, q0d]
    refine TW.gen (fun k => k.get g.nx = some (.cells q0s b.cells) ∧ k.get 0 = some (.cells q0k p.cells) ∧ 1 ≤ k.nx) ⟨by simp, by rw [get_put, if_neg (by omega), get_new, if_neg (by omega)]; exact hg0, by simp⟩ fun k hk => ?_
    obtain ⟨hk, hk0, hnk⟩ := hk
    repeat' first | refine TW.seq ?_ | refine TW.block ?_ | (refine TW.regG hP (by simp <;> rfl) ?_; dsimp only [goK])
    refine TW.loopL (fun j : Nat => [(1, .int .i64 f), (2, gone.av cI), (3, .ptr 0 0), (6, .bool false), (7, .int .i64 i), (8, .ptr g.nx 0), (9, .int .i64 j)]) (fun j m => j ≤ b.ins.list.length ∧ m.get g.nx = some (.cells q0s b.cells) ∧ m.get 0 = some (.cells q0k p.cells) ∧ 1 ≤ m.nx ∧ q7n p x gone.list = ((b.ins.list.zipIdx.drop j).any (rdI1 p x gone.list i) || ((q2g b.ed).any (in27 gone.list) || (x.blocks.list.zipIdx.drop (i + 1)).any (rdB1 p x gone.list)))) (fun j => b.ins.list.length - j) (0) ?_ ?_ ?_
    focus (repeat' first | exact q0c | refine q0b (by simp) ?_)
    · refine ⟨Nat.zero_le _, hk, hk0, hnk, ?_⟩
      rw [hall]; simp [rdB1, Bool.or_assoc]
    clear hall hg0 hk hk0 hnk hnx
    rintro j m ⟨hj, hm, hm0, hnm, hall⟩
    dsimp only [q0k, LProg.cells, q0s, LBlock.cells, LEnd.cells] at hj hm hm0 hall ⊢
    repeat' first | refine TW.seq ?_ | (refine TW.regG hP (by simp [hm] <;> rfl) ?_; dsimp only [goK]) | simp only [q0a]
    refine TW.cond hP rfl (fun hc => TW.skip ?_) (fun hc => TW.exit ?_)
    · simp at hc
      obtain ⟨y, hy⟩ := q0g hc
      have hym := List.mem_of_getElem? hy
      have hiv := q0z (e := LIns.cells) (show 0 < b.ins.list.length by omega)
      rw [z1p (z0j hy)] at hall
      have hay := hsf.args b hbm y hym
      have e1 := uses6_pure hP y hay
      have hul := uses6_len y hay
      have hlu := fun h => q3F (C := Ctx.of Tryz.prog gl K) (t := q0u) (h := h) (lenA_slOf (q2f y)) (str_slOf (q2f y))
      dsimp only [q0u] at hlu
      have e4 := number6_pure hP hX p hs f x hf h0' h1' i (by omega) (j : Int) (by omega)
      have e5 := q8V hP gone (q4e p x i j) hgl
      dsimp only [q0a]
      repeat' first | refine TW.seq ?_ | refine TW.block ?_ | (refine TW.regG hP (by simp [hm, hy, hiv] <;> rfl) ?_; dsimp only [goK]) | (refine TO.scall hP q2A (e1) ?_ rfl rfl rfl rfl ?_; (focus (simp; done)); refine TO.runsG hP (by simp <;> rfl) ?_; dsimp only [goK])
      refine TW.loopL (fun q : Nat => [(1, .int .i64 f), (2, gone.av cI), (3, .ptr 0 0), (6, .bool false), (7, .int .i64 i), (8, .ptr g.nx 0), (9, .int .i64 j), (10, slOf (q2f y)), (11, .int .i64 q)]) (fun q m => q ≤ (q2f y).length ∧ m.get g.nx = some (.cells q0s b.cells) ∧ m.get 0 = some (.cells q0k p.cells) ∧ 1 ≤ m.nx ∧ q7n p x gone.list = (((q2f y).drop q).any (fun u => in27 gone.list u && !in27 gone.list (q4e p x i j)) || ((b.ins.list.zipIdx.drop (j + 1)).any (rdI1 p x gone.list i) || ((q2g b.ed).any (in27 gone.list) || (x.blocks.list.zipIdx.drop (i + 1)).any (rdB1 p x gone.list))))) (fun q => (q2f y).length - q) (0) ?_ ?_ ?_
      focus (repeat' first | exact q0c | refine q0b (by simp) ?_)
      · refine ⟨Nat.zero_le _, hm, hm0, hnm, ?_⟩
        rw [hall]; simp [rdI1, Bool.or_assoc]
      clear hall hm hm0 hnm
      rintro q m ⟨hq, hm, hm0, hnm, hall⟩
      dsimp only [q0k, LProg.cells, q0s, LBlock.cells, LEnd.cells] at hq hm hm0 hall ⊢
      repeat' first | refine TW.seq ?_ | (refine TW.regG hP (by simp [hlu] <;> rfl) ?_; dsimp only [goK]) | simp only [q0a]
      refine TW.cond hP rfl (fun hc => TW.skip ?_) (fun hc => TW.exit ?_)
      · simp at hc
        obtain ⟨u, hu⟩ := q0g hc
        have huv := slOf_pos (show 0 < (q2f y).length by omega)
        rw [z1p hu] at hall
        have e6 := q8V hP gone u hgl
        dsimp only [q0a]
        cases h1 : in27 gone.list u with
        | false =>
          rw [h1] at e6 hall
          repeat' first | refine TW.seq ?_ | refine TW.block ?_ | refine TW.skip ?_ | refine TW.condF hP rfl ?_ | (refine TW.regG hP (by simp [hu, huv] <;> rfl) ?_; dsimp only [goK]) | (refine TO.scall hP q0U (e6) ?_ rfl rfl rfl rfl ?_; (focus (simp; done)); refine TO.runsG hP (by simp <;> rfl) ?_; dsimp only [goK]) | simp only [q0d]
          refine ⟨q + 1, by omega, trivial, ?_, by omega, hm, hm0, hnm, by simpa using hall⟩
          repeat' first | exact q0c | refine q0b (by simp [huv, w64s (show q < 9000000000000000000 by omega)]) ?_
        | true =>
          rw [h1] at e6 hall
          cases h2 : in27 gone.list (q4e p x i j) with
          | true =>
            rw [h2] at e5 hall
            repeat' first | refine TW.seq ?_ | refine TW.block ?_ | refine TW.skip ?_ | refine TW.condF hP rfl ?_ | (refine TW.regG hP (by simp [hu, huv] <;> rfl) ?_; dsimp only [goK]) | (refine TO.scall hP q0U (e6) ?_ rfl rfl rfl rfl ?_; (focus (simp; done)); refine TO.runsG hP (by simp [hm0] <;> rfl) ?_; dsimp only [goK]) | (refine TO.scall hP q2I (e4) ?_ rfl rfl rfl rfl ?_; (focus (simp; done)); refine TO.runsG hP (by simp <;> rfl) ?_; dsimp only [goK]) | (refine TO.scall hP q0U (e5) ?_ rfl rfl rfl rfl ?_; (focus (simp; done)); refine TO.runsG hP (by simp <;> rfl) ?_; dsimp only [goK]) | simp only [q0d]
            refine ⟨q + 1, by omega, trivial, ?_, by omega, hm, hm0, hnm, by simpa [h2] using hall⟩
            repeat' first | exact q0c | refine q0b (by simp [huv, w64s (show q < 9000000000000000000 by omega)]) ?_
          | false =>
            rw [h2] at e5 hall
            repeat' first | refine TW.seq ?_ | refine TW.block ?_ | refine TW.condT hP rfl ?_ | (refine TW.regG hP (by simp [hu, huv] <;> rfl) ?_; dsimp only [goK]) | (refine TO.scall hP q0U (e6) ?_ rfl rfl rfl rfl ?_; (focus (simp; done)); refine TO.runsG hP (by simp [hm0] <;> rfl) ?_; dsimp only [goK]) | (refine TO.scall hP q2I (e4) ?_ rfl rfl rfl rfl ?_; (focus (simp; done)); refine TO.runsG hP (by simp <;> rfl) ?_; dsimp only [goK]) | (refine TO.scall hP q0U (e5) ?_ rfl rfl rfl rfl ?_; (focus (simp; done)); refine TO.runsG hP (by simp <;> rfl) ?_; dsimp only [goK]) | simp only [q0a] | (refine TW.ret ⟨.inr rfl, _, _, rfl, rfl, ?_⟩; dsimp only [q0h])
            rw [hall]; rfl
      · simp at hc
        rw [List.drop_of_length_le hc] at hall
        dsimp only [q0a]
        repeat' first | (refine TW.regG hP (by simp <;> rfl) ?_; dsimp only [goK]) | simp only [q0d]
        refine ⟨j + 1, by omega, trivial, ?_, by omega, hm, hm0, hnm, by simpa using hall⟩
        repeat' first | exact q0c | refine q0b (by simp [w64s (show j < 9000000000000000000 by omega)]) ?_
    · simp at hc
      rw [List.drop_of_length_le (by simpa using hc)] at hall
      have e1 := ends6_pure hP b.ed
      have hlu := fun h => q3F (C := Ctx.of Tryz.prog gl K) (t := q0u) (h := h) (lenA_slOf (q2g b.ed)) (str_slOf (q2g b.ed))
      dsimp only [q0u] at hlu
      have hel : (q2g b.ed).length ≤ 1 := by unfold q2g; split <;> simp
      dsimp only [q0a]
      repeat' first | refine TW.seq ?_ | refine TW.block ?_ | (refine TW.regG hP (by simp [hm] <;> rfl) ?_; dsimp only [goK]) | (refine TO.scall hP q5g (e1) ?_ rfl rfl rfl rfl ?_; (focus (simp; done)); refine TO.runsG hP (by simp <;> rfl) ?_; dsimp only [goK])
      refine TW.loopL (fun q : Nat => [(1, .int .i64 f), (2, gone.av cI), (3, .ptr 0 0), (6, .bool false), (7, .int .i64 i), (12, slOf (q2g b.ed)), (13, .int .i64 q)]) (fun q m => q ≤ (q2g b.ed).length ∧ m.get 0 = some (.cells q0k p.cells) ∧ 1 ≤ m.nx ∧ q7n p x gone.list = (((q2g b.ed).drop q).any (in27 gone.list) || (x.blocks.list.zipIdx.drop (i + 1)).any (rdB1 p x gone.list))) (fun q => (q2g b.ed).length - q) (0) ?_ ?_ ?_
      focus (repeat' first | exact q0c | refine q0b (by simp) ?_)
      · exact ⟨Nat.zero_le _, hm0, hnm, by simpa using hall⟩
      clear hall hm hm0 hnm
      rintro q m ⟨hq, hm0, hnm, hall⟩
      dsimp only [q0k, LProg.cells] at hq hm0 hall ⊢
      repeat' first | refine TW.seq ?_ | (refine TW.regG hP (by simp [hlu] <;> rfl) ?_; dsimp only [goK]) | simp only [q0a]
      refine TW.cond hP rfl (fun hc => TW.skip ?_) (fun hc => TW.exit ?_)
      · simp at hc
        obtain ⟨u, hu⟩ := q0g hc
        have huv := slOf_pos (show 0 < (q2g b.ed).length by omega)
        rw [z1p hu] at hall
        have e6 := q8V hP gone u hgl
        dsimp only [q0a]
        cases h1 : in27 gone.list u with
        | false =>
          rw [h1] at e6 hall
          repeat' first | refine TW.seq ?_ | refine TW.block ?_ | refine TW.skip ?_ | refine TW.condF hP rfl ?_ | (refine TW.regG hP (by simp [hu, huv] <;> rfl) ?_; dsimp only [goK]) | (refine TO.scall hP q0U (e6) ?_ rfl rfl rfl rfl ?_; (focus (simp; done)); refine TO.runsG hP (by simp <;> rfl) ?_; dsimp only [goK]) | simp only [q0d]
          refine ⟨q + 1, by omega, trivial, ?_, by omega, hm0, hnm, by simpa using hall⟩
          repeat' first | exact q0c | refine q0b (by simp [huv, w64s (show q < 9000000000000000000 by omega)]) ?_
        | true =>
          rw [h1] at e6 hall
          repeat' first | refine TW.seq ?_ | refine TW.block ?_ | refine TW.condT hP rfl ?_ | (refine TW.regG hP (by simp [hu, huv] <;> rfl) ?_; dsimp only [goK]) | (refine TO.scall hP q0U (e6) ?_ rfl rfl rfl rfl ?_; (focus (simp; done)); refine TO.runsG hP (by simp <;> rfl) ?_; dsimp only [goK]) | simp only [q0a] | (refine TW.ret ⟨.inr rfl, _, _, rfl, rfl, ?_⟩; dsimp only [q0h])
          rw [hall]; rfl
      · simp at hc
        rw [List.drop_of_length_le hc] at hall
        dsimp only [q0a]
        repeat' first | (refine TW.regG hP (by simp <;> rfl) ?_; dsimp only [goK]) | simp only [q0d]
        refine ⟨i + 1, by omega, trivial, ?_, by omega, hnm, hm0, by simpa using hall⟩
        repeat' first | exact q0c | refine q0b (by simp [w64s (show i < 9000000000000000000 by omega)]) ?_
  · simp at hc
    rw [List.drop_of_length_le (by simpa using hc)] at hall
    dsimp only [q0a]
    repeat' first | refine TW.seq ?_ | (refine TW.regG hP (by simp <;> rfl) ?_; dsimp only [goK]) | simp only [q0a] | (refine TW.ret ⟨.inr rfl, _, _, rfl, rfl, ?_⟩; dsimp only [q0h])
    rw [hall]; rfl
def noP : LProg := { types := .nil, funcs := .nil }
def outOf (p : LProg) (x : LFunc) (r : Int) : Bool := decide (r < q0i p x) || decide (q0w p x ≤ r)
def q0Y (p : LProg) (f : Int) (g : List Int) : LProg × Int :=
 if q0K p f = 0 then (match p.funcs.list[f.toNat]? with
  | some x => if g.any (outOf p x) = true then (noP, 2) else if q7n p x g = true then (noP, 2) else (q7P p f.toNat x g, 0)
  | none => (noP, 0)) else (noP, q0K p f)
theorem q8S {p : LProg} {x : LFunc} (h : q0I p x = true) : ∀ b ∈ x.blocks.list, RegsIn (q0w p x).toNat b := by
 simp only [q0I, Bool.and_eq_true] at h
 have h2 := List.all_eq_true.1 h.2
 intro b hb
 have h3 := h2 b hb
 simp only [q2h, Bool.and_eq_true] at h3
 obtain ⟨h4, h5⟩ := h3
 have low : ∀ {l : List Int} {n : Int}, q2s l n = true → ∀ r ∈ l, 0 ≤ r ∧ r < n := fun {l n} h r hr => by
  have := List.all_eq_true.1 h r hr
  simp at this
  omega
 have key : ∀ y ∈ b.ins.list, (∀ r ∈ q2f y, 0 ≤ r ∧ r < q0w p x) ∧ (q1L y.op = true ∨ y.args.list.length = 0) := fun y hy => by
  have h6 := List.all_eq_true.1 h4 y hy
  simp only [q2a, mayInsA, mayInsB, Bool.and_eq_true, Bool.not_eq_true', Bool.or_eq_false_iff, Bool.not_eq_false'] at h6
  refine ⟨low h6.1.2.1, ?_⟩
  have h7 := h6.2.1.2.2
  cases hh : q1L y.op with
  | true => exact .inl rfl
  | false => rw [hh] at h7; simp at h7; exact .inr (by simp [h7])
 refine ⟨fun y hy hA => ?_, fun y hy h2 => ?_, fun y hy r hr => ?_, fun hk => ?_⟩
 ·have := (key y hy).1 y.a (by unfold q2f; simp [hA]); omega
 ·have := (key y hy).1 y.b (by unfold q2f; simp [h2]); omega
 ·rcases (key y hy).2 with h7 | h7
  ·have := (key y hy).1 r (by unfold q2f; simp [h7, hr]); omega
  ·have := List.eq_nil_of_length_eq_zero h7
   rw [this] at hr; cases hr
 ·unfold q3J at h5
  rcases hk with hk | hk
  ·simp only [hk, if_neg (show ¬ (2 : Int) = 1 by decide), if_true, Bool.and_eq_true] at h5
   have := low h5.1 b.ed.a (by simp); omega
  ·simp only [hk, if_neg (show ¬ (3 : Int) = 1 by decide), if_neg (show ¬ (3 : Int) = 2 by decide), if_true, Bool.and_eq_true] at h5
   have := low h5.2.2 b.ed.a (by simp); omega
theorem q6z {p : LProg} {x : LFunc} (h : q0I p x = true) (hp : ∀ y ∈ p.types.list, y.parts.list.length < 900000) : 0 ≤ q0w p x ∧ q0w p x < 1000000 := by
 obtain ⟨a1, a2, a3, a4, a5, a6⟩ := q2M h
 have h1 := q0J x.blocks.list
 have hsp : 0 ≤ q0i p x ∧ q0i p x < 900000 := by
  unfold q0i
  cases hx : p.types.list[x.sig.toNat]? with
  | none => simp
  | some y => have := hp y (List.mem_of_getElem? hx); simp; omega
 unfold q0w
 omega
theorem frz_progI (p : LProg) (n : Int) (h : Hp) : frzV 4 h (.tup [.agg p.cells, .int .i64 n]) = some (.tup [.agg p.cells, .int .i64 n]) := by
 have h1 : frzV 2 h (p.types.av LType.cells) = _ := q6R q7d _
 have h2 : frzV 2 h (p.funcs.av LFunc.cells) = _ := q6R z0k _
 have h3 : frzV 3 h (.agg p.cells) = some (.agg p.cells) := by
  rw [frzV]
  simp only [LProg.cells, mapO, h1, h2]
 rw [frzV]
 simp only [mapO, h3]
 rfl
set_option maxHeartbeats 4000000 in
theorem Drop27_pure (hP : POk Tryz.prog F gl K) (hX : ∀ f a, K.ext f a = none) (p : LProg) (hs : SmallP p) (f : Int) (g : Sl Int) (hgl : g.list.length < 1000000) :
    q0y Tryz.prog F q2z [.agg p.cells, .int .i64 f, g.av cI] (.tup [.agg (q0Y p f g.list).1.cells, .int .i64 (q0Y p f g.list).2]) := by
  refine CallsT.pure (O := fun u _ => u = .tup [.agg (q0Y p f g.list).1.cells, .int .i64 (q0Y p f g.list).2]) (k := 4) (by simp) ?_ (fun u m e => by subst e; exact frz_progI _ _ _)
  refine CallsT.body hP q0e E_fescueref27_Drop rfl rfl ?_
  have e1 := asked27_pure hP hX p hs f
  by_cases ha : q0K p f = 0
  · obtain ⟨h1, h2, h3⟩ := q4P ha
    obtain ⟨n, rfl⟩ := Int.eq_ofNat_of_zero_le h2
    obtain ⟨x, hx⟩ := q0g (show n < p.funcs.list.length by omega)
    have hmf := (q2d h1).2.1 x (List.mem_of_getElem? hx)
    have hsig := q2M hmf
    have hav := q0z (e := LFunc.cells) (show 0 < p.funcs.list.length by omega)
    obtain ⟨hr1, hr2⟩ := q6z hmf hs.parts
    have e2 := q6B hP hX p hs n x hx hsig.1 hsig.2.1
    have e3 := q6W hP p x hsig.1 hsig.2.1
    have e4 := read27_pure hP hX p hs n x hx hsig.1 hsig.2.1 g hgl
    have e5 := Without_pure hP hX p hs n x hx hsig.1 hsig.2.1 g hgl hr2 (q8S hmf)
    have hd : q0Y p n g.list = if g.list.any (outOf p x) = true then (noP, 2) else if q7n p x g.list = true then (noP, 2) else (q7P p n x g.list, 0) := by simp [q0Y, ha, hx]
    rw [ha] at e1
    repeat' first | refine TW.seq ?_ | refine TW.block ?_ | refine TW.skip ?_ | refine TW.condF hP rfl ?_ | (refine TW.regG hP (by simp <;> rfl) ?_; dsimp only [goK]) | (refine TO.scall hP q2k (e1) ?_ rfl rfl rfl rfl ?_; (focus (simp; done)); refine TO.runsG hP (by simp <;> rfl) ?_; dsimp only [goK])
    refine TW.loopL (fun i : Nat => [(1, .int .i64 n), (2, g.av cI), (3, .ptr 0 0), (6, .ptr 1 0), (7, .int .i64 0), (9, .int .i64 i)]) (fun i m => i ≤ g.list.length ∧ m.get 0 = some (.cells q0k p.cells) ∧ m.get 1 = some (.cells q0k [.nilsl, .nilsl]) ∧ g.list.any (outOf p x) = (g.list.drop i).any (outOf p x)) (fun i => g.list.length - i) (0) ?_ ?_ ?_
    focus (repeat' first | exact q0c | refine q0b (by simp) ?_)
    · exact ⟨Nat.zero_le _, by simp, by simp, rfl⟩
    rintro i m ⟨hi, hm0, hm1, hall⟩
    dsimp only [q0k, LProg.cells] at hi hm0 hm1 hall ⊢
    repeat' first | refine TW.seq ?_ | (refine TW.regG hP (by simp <;> rfl) ?_; dsimp only [goK]) | simp only [q0a]
    refine TW.cond hP rfl (fun hc => TW.skip ?_) (fun hc => TW.exit ?_)
    · simp at hc
      obtain ⟨r, hr⟩ := q0g hc
      have hgv := q0z (e := cI) (show 0 < g.list.length by omega)
      rw [z1p hr] at hall
      dsimp only [q0a]
      repeat' first | refine TW.seq ?_ | refine TW.block ?_
      try refine TW.seq ?_
      refine TW.drawG hP [(q0t, [.agg p.cells, .agg x.cells], .int .i64 (q0i p x)), (q2j, [.agg p.cells, .int .i64 n], .int .i64 (q0w p x))] (fun e he => by rcases List.mem_cons.1 he with rfl | he; exact e3; rcases List.mem_cons.1 he with rfl | he; exact e2; cases he) (by kernel_rfl) (by simp [hX, hm0, hx, hav, hr, hgv, q0t, q1j, q1k, q2j] <;> rfl) ?_
      repeat' (refine q2V (fun hb => ?_) (fun hb => ?_) <;> (try simp only [Bool.not_eq_eq_eq_not, Bool.not_true, Bool.not_false] at hb) <;> refine q8q (by simp [hb, hX, hm0, hav, hr, z0L, z1a] <;> rfl) ?_)
      all_goals dsimp only [okQ, q0a]
      all_goals clear e1 e2 e3 e4 e5
      all_goals
        repeat' first | refine TW.seq ?_ | refine TW.skip ?_ | refine TW.condT hP rfl ?_ | (refine TW.regG hP (by simp [hm1] <;> rfl) ?_; dsimp only [goK]) | simp only [q0a, q0d] | (refine TW.cond hP rfl (fun hc => ?_) (fun hc => ?_) <;> simp at hc)
      · refine TW.ret ⟨.inr rfl, _, [.agg noP.cells, .int .i64 2], rfl, by simp [resK, get_put, noP, Sl.av], ?_⟩
        rw [hd, if_pos (by rw [hall]; simp [outOf]; exact .inl (.inr hc))]; rfl
      · simp at hb
        have ho : outOf p x r = false := by simp [outOf]; omega
        rw [ho, Bool.false_or] at hall
        refine ⟨i + 1, by omega, trivial, ?_, by omega, hm0, hm1, hall⟩
        repeat' first | exact q0c | refine q0b (by simp [hgv, w64s (show i < 9000000000000000000 by omega)]) ?_
      · refine TW.ret ⟨.inr rfl, _, [.agg noP.cells, .int .i64 2], rfl, by simp [resK, get_put, noP, Sl.av], ?_⟩
        simp at hb
        rw [hd, if_pos (by rw [hall]; simp [outOf]; exact .inl (.inl hb))]; rfl
    · simp at hc
      rw [List.drop_of_length_le (by simpa using hc)] at hall
      rw [hall] at hd
      dsimp only [q0a]
      cases hrd : q7n p x g.list with
      | true =>
        rw [hrd] at e4 hd
        repeat' first | refine TW.seq ?_ | refine TW.condT hP rfl ?_ | (refine TW.regG hP (by simp [hm0, hm1] <;> rfl) ?_; dsimp only [goK]) | (refine TO.scall hP q6X (e4) ?_ rfl rfl rfl rfl ?_; (focus (simp; done)); refine TO.runsG hP (by simp <;> rfl) ?_; dsimp only [goK]) | simp only [q0a]
        refine TW.ret ⟨.inr rfl, _, [.agg noP.cells, .int .i64 2], rfl, by simp [resK, get_put, noP, Sl.av], ?_⟩
        rw [hd]; rfl
      | false =>
        rw [hrd] at e4 hd
        repeat' first | refine TW.seq ?_ | refine TW.skip ?_ | refine TW.condF hP rfl ?_ | (refine TW.regG hP (by simp [hm0] <;> rfl) ?_; dsimp only [goK]) | (refine TO.scall hP q6X (e4) ?_ rfl rfl rfl rfl ?_; (focus (simp; done)); refine TO.runsG hP (by simp <;> rfl) ?_; dsimp only [goK]) | (refine TO.scall hP q9j (e5) ?_ rfl rfl rfl rfl ?_; (focus (simp; done)); refine TO.runsG hP (by simp [hm1] <;> rfl) ?_; dsimp only [goK]) | simp only [q0a]
        refine TW.ret ⟨.inr rfl, _, [.agg (q7P p n x g.list).cells, .int .i64 0], rfl, by simp [resK, get_put], ?_⟩
        rw [hd]; rfl
  · have hd : q0Y p f g.list = (noP, q0K p f) := by simp [q0Y, ha]
    repeat' first | refine TW.seq ?_ | refine TW.condT hP rfl ?_ | (refine TW.regG hP (by simp [ha] <;> rfl) ?_; dsimp only [goK]) | (refine TO.scall hP q2k (e1) ?_ rfl rfl rfl rfl ?_; (focus (simp; done)); refine TO.runsG hP (by simp <;> rfl) ?_; dsimp only [goK]) | simp only [q0a] | (refine TW.ret ⟨.inr rfl, _, _, rfl, rfl, ?_⟩; dsimp only [q0h])
    rw [hd]; rfl
def q1x (n : Nat) (a : Nat) (b : Int) : List Int := ((List.range n).map fun r : Nat => (r : Int)).set a b
def z1h (p : LProg) (f : Nat) (x : LFunc) (a : Nat) (b : Int) : LProg := { types := .of (p.types.list.map q5j), funcs := .of ((p.funcs.list.map q4y).set f { sig := x.sig, blocks := .of (x.blocks.list.map (q4E (q1x (q0w p x).toNat a b))) }) }
def q1m (p : LProg) (f a b : Int) : LProg × Int :=
 if q0K p f = 0 then (match p.funcs.list[f.toNat]? with
  | some x => if a < 0 ∨ b < 0 ∨ q0w p x ≤ a ∨ q0w p x ≤ b then (noP, 2) else (z1h p f.toNat x a.toNat b, 0)
  | none => (noP, 0)) else (noP, q0K p f)
theorem row_first {p : LProg} {f : Nat} {x : LFunc} (hf : p.funcs.list[f]? = some x) {m : Hp} {rows : List (List AV)} {ra rb : AV} (hrf : rows[f]? = some [ra, rb]) (hrd : RdR S m 4 rows ((p.funcs.list.map q4y).map LFunc.cells)) : RdF S m 4 ra (.int .i64 x.sig) := by
 intro g' hg'
 have hfx : ((p.funcs.list.map q4y).map LFunc.cells)[f]? = some (q4y x).cells := by rw [List.getElem?_map, List.getElem?_map, hf]; rfl
 have h2 : mapO (frzV 4 g') [ra, rb] = some (q4y x).cells := by
  obtain ⟨h3, h4⟩ := q6v (hrd g' hg')
  obtain ⟨y, hy1, hy2⟩ := h4 f _ hfx
  rw [hrf] at hy1
  cases hy1
  exact hy2
 unfold mapO at h2
 split at h2
 case h_2 => cases h2
 rename_i a' ha'
 split at h2
 case h_2 => cases h2
 cases h2
 exact ha'
theorem setP_frz {p : LProg} {f : Nat} {x : LFunc} (hf : p.funcs.list[f]? = some x) (nb : List LBlock) {m k : Hp} {rows : List (List AV)} {r : Nat} {ra rb : AV} (hrows : q3l 2 rows) (hrf : rows[f]? = some [ra, rb]) (hrd : RdR S m 4 rows ((p.funcs.list.map q4y).map LFunc.cells))
  (hk : k.get r = some (.cells q0R (rows.set f [ra, (Sl.of nb).av LBlock.cells]).flatten)) (hS : ∀ s, S s → k.get s = m.get s) :
  frzV 6 k (.agg [(Sl.of (p.types.list.map q5j)).av LType.cells, .sl r 0 rows.length rows.length 2 false]) = some (.agg [(Sl.of (p.types.list.map q5j)).av LType.cells, (Sl.of ((p.funcs.list.map q4y).set f { sig := x.sig, blocks := .of nb })).av LFunc.cells]) := by
 have hset : RdR S m 4 (rows.set f [ra, (Sl.of nb).av LBlock.cells]) (((p.funcs.list.map q4y).set f { sig := x.sig, blocks := .of nb }).map LFunc.cells) := by
  rw [List.map_set]
  exact hrd.set (.cons (row_first hf hrf hrd) (.cons (fun _ _ => q6R q9x _) .nil))
 have hne : rows ≠ [] := by rintro rfl; simp at hrf
 have hown : Own 2 q0R 0 ⟨r + 1, k.m, 0⟩ (.sl r 0 rows.length rows.length 2 false) (rows.set f [ra, (Sl.of nb).av LBlock.cells]) := .inr ⟨by simpa using hne, r, Nat.zero_le _, Nat.lt_succ_self _, by simp, hk⟩
 have hfz := hown.rd' (q2u hrows rfl) (k := 4) (hset ⟨r + 1, k.m, 0⟩ fun s hs => hS s hs)
 have hfz1 : frzV 5 k (.sl r 0 rows.length rows.length 2 false) = _ := (frz_m (g := ⟨r + 1, k.m, 0⟩) rfl 5 _).trans hfz
 rw [q5C] at hfz1
 rw [frzV]
 simp only [mapO, q6R q7d, hfz1]
set_option maxHeartbeats 4000000 in
theorem Swapped_pure (hP : POk Tryz.prog F gl K) (hX : ∀ f a, K.ext f a = none) (p : LProg) (hs : SmallP p) (f : Nat) (x : LFunc) (hf : p.funcs.list[f]? = some x) (h0' : 0 ≤ x.sig) (h1' : x.sig < p.types.list.length) (a : Nat) (b : Int) (hn : q0w p x < 1000000) (hab : (a : Int) < q0w p x) (hr : ∀ b ∈ x.blocks.list, RegsIn (q0w p x).toNat b) :
  q0y Tryz.prog F q3r [.agg p.cells, .int .i64 f, .int .i64 a, .int .i64 b] (.agg (z1h p f x a b).cells) := by
 refine CallsT.pure (O := fun u g => frzV 6 g u = some (.agg (z1h p f x a b).cells)) (k := 6) (by simp) ?_ (fun u g e => e)
 refine CallsT.body hP q0e q9p rfl rfl ?_
 obtain ⟨hb1, hb2⟩ := regs6_bnd hs hf
 have e1 := q6B hP hX p hs f x hf h0' h1'
 repeat' first | refine TW.seq ?_ | refine TW.block ?_ | (refine TW.regG hP (by simp <;> rfl) ?_; dsimp only [goK])
 refine TW.loopL (fun q : Nat × AV => [(1, .int .i64 f), (2, .int .i64 a), (3, .int .i64 b), (4, .ptr 0 0), (8, .ptr 1 0), (9, q.2), (10, .int .i64 q.1)]) (fun q g => q.1 ≤ (q0w p x).toNat ∧ 2 ≤ g.nx ∧ g.get 0 = some (.cells q0k p.cells) ∧ g.get 1 = some (.cells q0k [.nilsl, .nilsl]) ∧ Own 1 q0C 2 g q.2 (((List.range q.1).map fun r : Nat => (r : Int)).map cI)) (fun q => (q0w p x).toNat - q.1) ((0, .nilsl)) ?_ ?_ ?_
 focus (repeat' first | exact q0c | refine q0b (by simp) ?_)
 ·exact ⟨Nat.zero_le _, by simp, by simp, by simp, .nil⟩
 rintro ⟨r, v⟩ g ⟨hi, hnx, hg0, hg1, hown⟩
 dsimp only [q0k, LProg.cells] at hi hg0 hg1 hown ⊢
 repeat' first | refine TW.seq ?_ | (refine TW.regG hP (by simp [hg0] <;> rfl) ?_; dsimp only [goK]) | (refine TO.scall hP q2m (e1) ?_ rfl rfl rfl rfl ?_; (focus (simp; done)); refine TO.runsG hP (by simp <;> rfl) ?_; dsimp only [goK]) | simp only [q0a]
 refine TW.cond hP rfl (fun hc => TW.skip ?_) (fun hc => TW.exit ?_)
 ·simp at hc
  obtain ⟨v', h', q1, q2, q3, q4⟩ := hown.push (t := q0u) (row := [.int .i64 (r : Int)]) (q0Q (gl := gl) (K := K)) q1a rfl rfl (by simp; omega) hnx
  dsimp only [q0u, q0C] at q1
  have hown' : Own 1 q0C 2 h' v' (((List.range (r + 1)).map fun r : Nat => (r : Int)).map cI) := by rw [List.range_succ, List.map_append, List.map_append]; exact q2
  dsimp only [q0a]
  repeat' first | refine TW.seq ?_ | refine TW.block ?_ | (refine TW.regG hP (by simp [q1] <;> rfl) ?_; dsimp only [goK]) | simp only [q0d]
  refine ⟨(r + 1, v'), by dsimp only; omega, trivial, ?_, by dsimp only; omega, by omega, (q3.get 0 (by omega)).trans hg0, (q3.get 1 (by omega)).trans hg1, hown'⟩
  repeat' first | exact q0c | refine q0b (by simp [w64s (show r < 9000000000000000000 by omega)]) ?_
 ·simp at hc
  obtain rfl : r = (q0w p x).toNat := by omega
  simp only [q0a, q0f, q0d, ↓reduceIte]
  rcases hown with ⟨_, h2⟩ | ⟨hne, q, hq1, hq2, rfl, hgq⟩
  ·simp at h2; omega
  have hqn : (((List.range (q0w p x).toNat).map fun r : Nat => (r : Int)).map cI).length = (q0w p x).toNat := by simp
  rw [hqn]
  have hra : (((List.range (q0w p x).toNat).map fun r : Nat => (r : Int)).map cI)[a]? = some [.int .i64 (a : Int)] := by rw [List.getElem?_map, List.getElem?_map, List.getElem?_range (by omega)]; rfl
  have hSt := store10 (C := Ctx.of Tryz.prog gl K) (v := .int .i64 b) hgq q1a hra rfl rfl (by omega)
  have e : ∀ l : List Int, (l.map cI).flatten = l.map (.int .i64) := fun l => by induction l with | nil => rfl | cons a l ih => simp [ih]
  have hsw : ((((List.range (q0w p x).toNat).map fun r : Nat => (r : Int)).map cI).set a ([AV.int .i64 (a : Int)].set 0 (.int .i64 b))) = (q1x (q0w p x).toNat a b).map cI := by rw [q1x, List.map_set]; rfl
  rw [hsw, e] at hSt
  simp only [Nat.mul_one, q0C] at hSt
  refine TW.seq (TW.regG hP (by simp [hSt, -storeAt, sz1, (show a < (q0w p x).toNat by omega)] <;> rfl) ?_)
  dsimp only [goK, q0a, q0f, q0d]
  have hi1 : IntS (.sl q 0 (q0w p x).toNat (q0w p x).toNat 1 false) (.of (q1x (q0w p x).toNat a b)) (g.put q (.cells 3 ((q1x (q0w p x).toNat a b).map (.int .i64)))) (fun s => s = q) := by
   have hl : (q1x (q0w p x).toNat a b).length = (q0w p x).toNat := by simp [q1x]
   refine .inr ⟨q, false, q1x (q0w p x).toNat a b, ?_, by rw [hl], rfl, by rw [get_put, if_pos rfl]⟩
   cases hsw : q1x (q0w p x).toNat a b with
   | nil => rw [hsw] at hl; simp at hl; omega
   | cons a l => rfl
  refine TW.freeze (l' := [(1, .int .i64 f), (2, .int .i64 a), (3, .int .i64 b), (4, .ptr 0 0), (8, .ptr 1 0), (9, (Sl.of (q1x (q0w p x).toNat a b)).av cI)]) _ (q1M rfl (q1M rfl (q1M rfl (q1M rfl (q1M rfl (q6U rfl hi1.rd frz_nil)))))) ?_
  refine TW.gen (fun k => 2 ≤ k.nx ∧ k.get 0 = some (.cells q0k p.cells) ∧ k.get 1 = some (.cells q0k [.nilsl, .nilsl])) ⟨by show 2 ≤ g.nx; exact hnx, ?_, ?_⟩ fun k hk => ?_
  ·rw [q8p (by omega), get_put, if_neg (by omega)]; exact hg0
  ·rw [q8p (by omega), get_put, if_neg (by omega)]; exact hg1
  obtain ⟨hnk, hk0, hk1⟩ := hk
  dsimp only [q0k, LProg.cells] at hk0 hk1
  clear hg0 hg1 hgq hi1 hnx hSt hq2
  have hav := q0z (e := LFunc.cells) (show 0 < p.funcs.list.length by have := (List.getElem?_eq_some_iff.1 hf).1; omega)
  have hfb := (hs.funcs x (List.mem_of_getElem? hf)).blk
  have hsl : (Sl.of (q1x (q0w p x).toNat a b)).list.length = (q0w p x).toNat := by rw [Sl.of_list]; simp [q1x]
  have e3 := Turned_pure hP hX x.blocks (.of (q1x (q0w p x).toNat a b)) hfb.1 hfb.2 (fun b hb => by rw [hsl]; exact hr b hb)
  rw [Sl.of_list] at e3
  have hnf := hs.nf
  repeat' first | refine TW.seq ?_ | (refine TW.regG hP (by simp [hk0] <;> rfl) ?_; dsimp only [goK])
  refine TO.ccall hP q5e (Twin6_mem hP hX p hs _) (by simp) rfl rfl rfl rfl (fun u g2 ⟨fv, hu, hw2, hfv⟩ => ?_)
  subst hu
  obtain ⟨d1, d2⟩ := hfv.cell
  refine TO.runsG hP (by simp [d1] <;> rfl) ?_
  dsimp only [goK]
  have hw3 := hw2.nx
  refine TW.gen (fun m => m.get g2.nx = some (.cells q0k [(Sl.of (p.types.list.map q5j)).av LType.cells, fv]) ∧ Wid g2 m ∧ m.nx = g2.nx + 1) ⟨by simp [get_put], ((Wid.refl g2).new _).put (by simp) _, by simp⟩ fun m hm => ?_
  obtain ⟨hm, hwm, hnm⟩ := hm
  dsimp only [q0k] at hm
  have hm1 : m.get 1 = _ := hwm.at (hw2.at hk1 (by omega)) (by omega)
  have hm0 : m.get 0 = _ := hwm.at (hw2.at hk0 (by omega)) (by omega)
  have hne : ∀ r n c e x, fv = .sl r n c e 2 x → ¬ r = g2.nx := fun r n c e x h => by
   rcases hfv.cases with h' | ⟨r', n', h1, h2, h3⟩
   ·rw [h'] at h; cases h
   ·rw [h3] at h; cases h; omega
  obtain ⟨S, rows, ho, hrows, hS, hout, hrd⟩ := hfv.wid hwm
  have hrl := hrd.len
  simp at hrl
  have hfl : f < p.funcs.list.length := (List.getElem?_eq_some_iff.1 hf).1
  rcases ho with ⟨_, rfl⟩ | ⟨hne', r, hr1, hr2, rfl, hgr⟩
  ·simp at hrl; rw [hrl] at hfl; simp at hfl
  obtain ⟨rowf, hrf⟩ := q0g (l := rows) (i := f) (by omega)
  have hrow2 : ∃ a b, rowf = [a, b] := by
   have := hrows rowf (List.mem_of_getElem? hrf)
   match rowf, this with
   | [a, b], _ => exact ⟨a, b, rfl⟩
  obtain ⟨ra, rb, rfl⟩ := hrow2
  have hner := hne _ _ _ _ _ rfl
  have hSt := q6p (h := m.up) (C := Ctx.of Tryz.prog gl (K.tell [(q1i, [x.blocks.av LBlock.cells, (Sl.of (q1x (q0w p x).toNat a b)).av cI], (Sl.of (x.blocks.list.map (q4E (q1x (q0w p x).toNat a b)))).av LBlock.cells)])) (v := (Sl.of (x.blocks.list.map (q4E (q1x (q0w p x).toNat a b)))).av LBlock.cells) (o := 1) (by rw [q2K]; exact hgr) hrows hrf (q7y _) (q8U _) (by omega)
  dsimp only [q0R] at hSt
  try refine TW.seq ?_
  refine TW.drawH hP [(q1i, [x.blocks.av LBlock.cells, (Sl.of (q1x (q0w p x).toNat a b)).av cI], (Sl.of (x.blocks.list.map (q4E (q1x (q0w p x).toNat a b)))).av LBlock.cells)] (fun e he => by rcases List.mem_cons.1 he with rfl | he; exact e3; cases he) [0, 1, 0, 0, 8, 0, 56, 120, 248, 0, 1016, 2047, 4095, 8191] (by kernel_rfl) (by kernel_rfl) (by simp [hX, hm, hm0, hf, hav, hSt, -storeAt, sz1, (show f < rows.length by omega), (show ¬ m.nx ≤ 0 by omega), (show ¬ r = g2.nx by omega), (show ¬ m.nx ≤ r by omega), (show ¬ r = 0 by omega), q1i, q5X, q6a, oneD, fpAt, fpOf, q0v, ldOf, q0T, q0m, FP.clash, FP.hard, FP.soft, overlap, inR, q0A, q1T, Nat.testBit] <;> rfl) ?_
  repeat' (refine q1A (fun hb => ?_) (fun hb => ?_) <;> (try simp only [Bool.not_eq_eq_eq_not, Bool.not_true, Bool.not_false] at hb) <;> refine q4H (by simp [hb, hX, hm, hm0, hf, hav, hSt, -storeAt, sz1, (show f < rows.length by omega), (show ¬ m.nx ≤ g2.nx by omega), (show ¬ m.nx ≤ 0 by omega), (show ¬ r = g2.nx by omega), (show ¬ g2.nx = r by omega), (show ¬ m.nx ≤ r by omega), (show ¬ r = 0 by omega), (show ¬ 0 = r by omega), q1i, q5X, q6a, oneD, fpAt, fpOf, q0v, ldOf, q0T, q0m, FP.clash, FP.hard, FP.soft, overlap, inR, q0A, q1T, Nat.testBit, show ¬ m.nx + 1 ≤ m.nx by omega, show ¬ m.nx + 2 ≤ m.nx by omega, show ¬ m.nx + 2 ≤ m.nx + 1 by omega, show ¬ m.nx + 3 ≤ m.nx by omega, show ¬ m.nx + 3 ≤ m.nx + 1 by omega, show ¬ m.nx + 3 ≤ m.nx + 2 by omega] <;> rfl) ?_)
  all_goals dsimp only [okD, q0a]
  refine TW.gen (fun k => k.get g2.nx = some (.cells q0k [(Sl.of (p.types.list.map q5j)).av LType.cells, .sl r 0 rows.length rows.length 2 false]) ∧ k.get 1 = some (.cells q0k [.nilsl, .nilsl]) ∧ k.get r = some (.cells q0R (rows.set f [ra, (Sl.of (x.blocks.list.map (q4E (q1x (q0w p x).toNat a b)))).av LBlock.cells]).flatten) ∧ ∀ s, S s → k.get s = m.get s) ⟨?_, ?_, ?_, ?_⟩ fun k3 hk3 => ?_
  ·rw [q1F, get_put, if_neg hner]; exact hm
  ·rw [q1F, get_put, if_neg (by omega)]; exact hm1
  ·rw [q1F, get_put, if_pos rfl]
  ·intro s hs
   rw [q1F, get_put, if_neg (fun e : r = s => hout r _ _ _ _ _ rfl (by rw [e]; exact hs))]
  obtain ⟨g1, g3, g4, g5⟩ := hk3
  dsimp only [q0k] at g1 g3
  repeat' first | refine TW.seq ?_ | (refine TW.regG hP (by simp [g1, g3] <;> rfl) ?_; dsimp only [goK]) | simp only [q0a]
  refine TW.ret ⟨.inr rfl, _, [.agg [(Sl.of (p.types.list.map q5j)).av LType.cells, .sl r 0 rows.length rows.length 2 false]], rfl, by simp [resK, get_put], ?_⟩
  dsimp only [q0h]
  refine (setP_frz hf (x.blocks.list.map (q4E (q1x (q0w p x).toNat a b))) hrows hrf hrd ?_ ?_).trans rfl
  ·rw [get_put, if_neg (by omega)]; exact g4
  ·intro s hs
   have := hS s hs
   rw [get_put, if_neg (by omega)]; exact g5 s hs
set_option maxHeartbeats 4000000 in
theorem Swap27_pure (hP : POk Tryz.prog F gl K) (hX : ∀ f a, K.ext f a = none) (p : LProg) (hs : SmallP p) (f a b : Int) :
  q0y Tryz.prog F q2y [.agg p.cells, .int .i64 f, .int .i64 a, .int .i64 b] (.tup [.agg (q1m p f a b).1.cells, .int .i64 (q1m p f a b).2]) := by
 refine CallsT.pure (O := fun u _ => u = .tup [.agg (q1m p f a b).1.cells, .int .i64 (q1m p f a b).2]) (k := 4) (by simp) ?_ (fun u m e => by subst e; exact frz_progI _ _ _)
 refine CallsT.body hP q0e E_fescueref27_Swap rfl rfl ?_
 have e1 := asked27_pure hP hX p hs f
 by_cases ha : q0K p f = 0
 ·obtain ⟨h1, h2, h3⟩ := q4P ha
  obtain ⟨n, rfl⟩ := Int.eq_ofNat_of_zero_le h2
  obtain ⟨x, hx⟩ := q0g (show n < p.funcs.list.length by omega)
  have hmf := (q2d h1).2.1 x (List.mem_of_getElem? hx)
  have hsig := q2M hmf
  obtain ⟨hr1, hr2⟩ := q6z hmf hs.parts
  have e2 := q6B hP hX p hs n x hx hsig.1 hsig.2.1
  rw [ha] at e1
  by_cases hab : a < 0 ∨ b < 0 ∨ q0w p x ≤ a ∨ q0w p x ≤ b
  ·have hd : q1m p n a b = (noP, 2) := by simp [q1m, ha, hx, hab]
   repeat' first | refine TW.seq ?_ | refine TW.skip ?_ | refine TW.condT hP rfl ?_ | refine TW.condF hP rfl ?_ | (refine TW.regG hP (by simp <;> rfl) ?_; dsimp only [goK]) | (refine q0E (fun hb => ?_) (fun hb => ?_) <;> (try simp only [Bool.not_eq_eq_eq_not, Bool.not_true, Bool.not_false] at hb) <;> (refine q2c (by simp [hb] <;> rfl) ?_; dsimp only [goK])) | (refine TO.scall hP q2k (e1) ?_ rfl rfl rfl rfl ?_; (focus (simp; done)); refine TO.runsG hP (by simp <;> rfl) ?_; dsimp only [goK]) | (refine TO.scall hP q2m (e2) ?_ rfl rfl rfl rfl ?_; (focus (simp; done)); refine TO.runsG hP (by simp <;> rfl) ?_; dsimp only [goK]) | simp only [q0a] | (refine TW.cond hP rfl (fun hc => ?_) (fun hc => ?_) <;> simp at hc) | (refine TW.ret ⟨.inr rfl, _, _, rfl, rfl, ?_⟩; dsimp only [q0h])
   all_goals first | (rw [hd]; rfl) | (exfalso; simp at *; omega)
  ·have hd : q1m p n a b = (z1h p n x a.toNat b, 0) := by simp [q1m, ha, hx, hab]
   obtain ⟨a', rfl⟩ := Int.eq_ofNat_of_zero_le (show 0 ≤ a by omega)
   have e3 := Swapped_pure hP hX p hs n x hx hsig.1 hsig.2.1 a' b hr2 (by omega) (q8S hmf)
   repeat' first | refine TW.seq ?_ | refine TW.skip ?_ | refine TW.condF hP rfl ?_ | (refine TW.regG hP (by simp [(show ¬ (a' : Int) < 0 by omega), (show ¬ b < 0 by omega), (show ¬ q0w p x ≤ (a' : Int) by omega), (show ¬ q0w p x ≤ b by omega)] <;> rfl) ?_; dsimp only [goK]) | (refine TO.scall hP q2k (e1) ?_ rfl rfl rfl rfl ?_; (focus (simp; done)); refine TO.runsG hP (by simp <;> rfl) ?_; dsimp only [goK]) | (refine TO.scall hP q2m (e2) ?_ rfl rfl rfl rfl ?_; (focus (simp; done)); refine TO.runsG hP (by simp <;> rfl) ?_; dsimp only [goK]) | (refine TO.scall hP q9k (e3) ?_ rfl rfl rfl rfl ?_; (focus (simp; done)); refine TO.runsG hP (by simp <;> rfl) ?_; dsimp only [goK]) | simp only [q0a] | (refine TW.ret ⟨.inr rfl, _, _, rfl, rfl, ?_⟩; dsimp only [q0h])
   all_goals first | (rw [hd]; rfl)
 ·have hd : q1m p f a b = (noP, q0K p f) := by simp [q1m, ha]
  repeat' first | refine TW.seq ?_ | refine TW.condT hP rfl ?_ | (refine TW.regG hP (by simp [ha] <;> rfl) ?_; dsimp only [goK]) | (refine TO.scall hP q2k (e1) ?_ rfl rfl rfl rfl ?_; (focus (simp; done)); refine TO.runsG hP (by simp <;> rfl) ?_; dsimp only [goK]) | simp only [q0a] | (refine TW.ret ⟨.inr rfl, _, _, rfl, rfl, ?_⟩; dsimp only [q0h])
  rw [hd]; rfl
def q1s : List AV := [.bool false, .bool false, .bool false, .bool false, .bool false, .bool false, .bool false, .bool false, .bool true, .bool false, .bool false, .bool true, .bool false, .bool false, .bool false, .bool false, .bool false, .bool true, .bool false, .bool false, .bool true, .bool false, .bool false, .bool true, .bool true, .bool true, .bool false, .bool false, .bool false, .bool true, .bool true, .bool true, .bool false, .bool false, .bool false, .bool true, .bool true, .bool true, .bool false, .bool false, .bool false, .bool true, .bool true, .bool true, .bool false, .bool false, .bool false, .bool true, .bool true, .bool true, .bool false, .bool false, .bool false, .bool true, .bool true, .bool true, .bool false, .bool false, .bool false, .bool true, .bool true, .bool true, .bool false, .bool false, .bool false, .bool true, .bool false, .bool false, .bool false, .bool false, .bool false, .bool true, .bool false, .bool false, .bool false, .bool false, .bool false, .bool true, .bool true, .bool false, .bool false, .bool false, .bool false, .bool false, .bool true, .bool false, .bool true, .bool false, .bool false, .bool true, .bool true, .bool true, .bool false, .bool false, .bool false, .bool true, .bool true, .bool false, .bool false, .bool false, .bool false, .bool true, .bool true, .bool true, .bool false, .bool false, .bool false, .bool false, .bool false, .bool false, .bool true, .bool true, .bool false, .bool true, .bool true, .bool false, .bool false, .bool true, .bool false, .bool true, .bool false, .bool false, .bool false, .bool false, .bool false, .bool true, .bool true, .bool false, .bool false, .bool false, .bool false, .bool false, .bool false, .bool false, .bool false, .bool true, .bool true, .bool true]
def hasN6 (op : Int) : Bool := decide (op = 1) || (decide (op = 3) || (decide (op = 14) || decide (op = 18)))
def hasS (op : Int) : List AV := [.bool (q2Y op), .bool (two6 op), .bool (hasN6 op), .bool (q1L op), .bool (decide (op = 22)), .bool (q3z op)]
theorem table_at : ∀ n : Nat, n < 23 → sub q1s (n * 6) 6 = some (hasS n)
 | 0, _ => rfl | 1, _ => rfl | 2, _ => rfl | 3, _ => rfl | 4, _ => rfl | 5, _ => rfl | 6, _ => rfl | 7, _ => rfl | 8, _ => rfl | 9, _ => rfl | 10, _ => rfl | 11, _ => rfl | 12, _ => rfl | 13, _ => rfl | 14, _ => rfl | 15, _ => rfl | 16, _ => rfl | 17, _ => rfl | 18, _ => rfl | 19, _ => rfl | 20, _ => rfl | 21, _ => rfl | 22, _ => rfl
 | n + 23, h => absurd h (by omega)
theorem hasS_out {op : Int} (h : 23 ≤ op) : hasS op = [.bool false, .bool false, .bool false, .bool false, .bool false, .bool false] := by
 have h1 : two6 op = false := by unfold two6; simp; omega
 have h2 : q2Y op = false := by unfold q2Y; rw [h1]; simp; omega
 have h3 : hasN6 op = false := by unfold hasN6; simp; omega
 have h4 : q1L op = false := by unfold q1L; simp; omega
 have h5 : q3z op = false := by
  cases ha : q3z op with
  | false => rfl
  | true => unfold q3z at ha; simp at ha; omega
 rw [hasS, h1, h2, h3, h4, h5, decide_eq_false (show ¬ op = 22 by omega)]
theorem isSlice_int {k : IntKind} {n : Int} : q7L (.int k n) = false := rfl
theorem frz_has (op : Int) (h : Hp) : frzV 2 h (.agg (hasS op)) = some (.agg (hasS op)) := by
 rw [frzV]
 rfl
theorem of_pure (hP : POk Tryz.prog F gl K) (hG : gl q1n = .iptr [q1s] 0 0) (op : Int) (h0 : 0 ≤ op) (h1 : op < 256) : q0y Tryz.prog F q7A [.int .u8 op] (.agg (hasS op)) := by
 refine CallsT.pure (O := fun u _ => u = .agg (hasS op)) (k := 2) (by simp) ?_ (fun u m e => by subst e; exact frz_has _ _)
 refine CallsT.body hP q0e E_shape_of rfl rfl ?_
 obtain ⟨n, rfl⟩ := Int.eq_ofNat_of_zero_le h0
 dsimp only [q1n] at hG
 have hw : q8s .i64 (n : Int) = n := w64e (n := (n : Int)) (by omega) (by omega)
 have hgl : ∀ K' : Knob, (Ctx.of Tryz.prog gl K').gl 0 = .iptr [q1s] 0 0 := fun _ => hG
 by_cases hn : n < 23
 ·have ht := table_at n hn
  have ht1 : n * 6 + 6 ≤ q1s.length := by show n * 6 + 6 ≤ 138; omega
  have ht2 : (q1s.drop (n * 6)).take 6 = hasS (n : Int) := by
   unfold sub at ht
   rw [show Nat.ble (Nat.add (n * 6) 6) q1s.length = true from Nat.ble_eq_true_of_le ht1] at ht
   exact Option.some.inj ht
  have hl : (hasS (n : Int)).length = 6 := rfl
  have hc6 : (hasS (n : Int)).all q0P = true := rfl
  repeat' first | refine TW.seq ?_ | refine TW.condT hP rfl ?_ | (refine TW.regG hP (by simp [hgl, ht1, ht2, hn, (show (n : Int) < 23 by omega), isSlice_int, convA, hw, hl, hc6] <;> rfl) ?_; dsimp only [goK]) | simp only [q0a] | (refine TW.ret ⟨.inr rfl, _, _, rfl, rfl, ?_⟩; dsimp only [q0h])
  rfl
 ·have ht := hasS_out (op := (n : Int)) (by omega)
  repeat' first | refine TW.seq ?_ | refine TW.skip ?_ | refine TW.condF hP rfl ?_ | (refine TW.regG hP (by simp [(show ¬ (n : Int) < 23 by omega), isSlice_int, convA, hw] <;> rfl) ?_; dsimp only [goK]) | simp only [q0a] | (refine TW.ret ⟨.inr rfl, _, _, rfl, rfl, ?_⟩; dsimp only [q0h])
  rw [ht]; rfl
set_option maxHeartbeats 1000000 in
theorem Uses_pure (hP : POk Tryz.prog F gl K) (hG : gl q1n = .iptr [q1s] 0 0) (x : LIns) (h0 : 0 ≤ x.op) (h1 : x.op < 256) (hlen : x.args.list.length < 900000) : q0y Tryz.prog F q2e [.agg x.cells] (slOf (q2f x)) := by
  refine CallsT.pure (O := fun u g => frzV 3 g u = some (slOf (q2f x))) (k := 3) (by simp) ?_ (fun u g e => e)
  refine CallsT.body hP q0e E_shape_Uses rfl rfl ?_
  have e1 := of_pure hP hG x.op h0 h1
  have hl : (hasS x.op).length = 6 := rfl
  have hc6 : (hasS x.op).all q0P = true := rfl
  refine TW.seq (TW.regG hP (by simp <;> rfl) ?_)
  dsimp only [goK, q0a, q0f, q0d]
  try refine TW.seq ?_
  refine TW.regG hP (by simp <;> rfl) ?_
  dsimp only [goK]
  refine TO.scall hP q9J (e1) (by simp) rfl rfl rfl rfl ?_
  refine TO.runsG hP (by simp [hl, hc6] <;> rfl) ?_
  dsimp only [goK, q0a]
  refine TW.gen (fun g => g.get 0 = some (.cells q0M x.cells) ∧ g.get 1 = some (.cells q3x (hasS x.op)) ∧ 2 ≤ g.nx) ⟨by simp [get_put], by simp [get_put], by simp⟩ fun g hgg => ?_
  obtain ⟨hg, hg1, hnx⟩ := hgg
  dsimp only [q0M, q3x, hasS] at hg hg1
  refine TW.join (fun v : AV => [(1, .ptr 0 0), (2, v), (3, .ptr 1 0)]) (fun v g => g.get 0 = some (.cells q0M x.cells) ∧ g.get 1 = some (.cells q3x (hasS x.op)) ∧ 2 ≤ g.nx ∧ Own 1 q0C 2 g v ((if q2Y x.op = true then [x.a] else []).map cI)) ?_ ?_
  · cases hA : q2Y x.op with
    | true =>
      rw [hA] at hg1
      obtain ⟨v', k', happ, hown', hwb, hnx'⟩ := (Own.nil (es := 1) (eT := q0C) (b := 2) (h := g)).push (t := q0u) (row := [.int .i64 x.a]) (q0Q (gl := gl) (K := K)) (fun c hc => by cases hc) rfl rfl (by simp) hnx
      dsimp only [q0u, q0C] at happ
      repeat' first | refine TW.seq ?_ | refine TW.condT hP rfl ?_ | (refine TW.regG hP (by simp [hg, hg1, happ] <;> rfl) ?_; dsimp only [goK]) | simp only [↓reduceIte]
      refine ⟨v', rfl, ?_, ?_, ?_, by omega, hown'⟩
      · repeat' first | exact q0c | refine q0b (by simp) ?_
      · rw [hwb.get 0 (by omega)]; exact hg
      · rw [hwb.get 1 (by omega), hg1, hasS, hA]
    | false =>
      rw [hA] at hg1
      repeat' first | refine TW.seq ?_ | refine TW.skip ?_ | refine TW.condF hP rfl ?_ | (refine TW.regG hP (by simp [hg1] <;> rfl) ?_; dsimp only [goK]) | simp only [↓reduceIte, reduceCtorEq]
      refine ⟨.nilsl, rfl, ?_, hg, by rw [hg1, hasS, hA], hnx, .nil⟩
      repeat' first | exact q0c | refine q0b (by simp) ?_
  rintro v g ⟨hg, hg1, hnx, hown⟩
  dsimp only [q0M, q0C, q3x, hasS] at hg hg1 hown
  refine TW.join (fun v : AV => [(1, .ptr 0 0), (2, v), (3, .ptr 1 0)]) (fun v g => g.get 0 = some (.cells q0M x.cells) ∧ g.get 1 = some (.cells q3x (hasS x.op)) ∧ 2 ≤ g.nx ∧ Own 1 q0C 2 g v (((if q2Y x.op = true then [x.a] else []) ++ (if two6 x.op = true then [x.b] else [])).map cI)) ?_ ?_
  · cases h2 : two6 x.op with
    | true =>
      rw [h2] at hg1
      obtain ⟨v', k', happ, hown', hwb, hnx'⟩ := hown.push (t := q0u) (row := [.int .i64 x.b]) (q0Q (gl := gl) (K := K)) q1a rfl rfl (by split <;> simp) hnx
      dsimp only [q0u, q0C] at happ
      repeat' first | refine TW.seq ?_ | refine TW.condT hP rfl ?_ | (refine TW.regG hP (by simp [hg, hg1, happ] <;> rfl) ?_; dsimp only [goK]) | simp only [↓reduceIte]
      refine ⟨v', rfl, ?_, ?_, ?_, by omega, ?_⟩
      · repeat' first | exact q0c | refine q0b (by simp) ?_
      · rw [hwb.get 0 (by omega)]; exact hg
      · rw [hwb.get 1 (by omega), hg1, hasS, h2]
      · rw [List.map_append]; exact hown'
    | false =>
      rw [h2] at hg1
      repeat' first | refine TW.seq ?_ | refine TW.skip ?_ | refine TW.condF hP rfl ?_ | (refine TW.regG hP (by simp [hg1] <;> rfl) ?_; dsimp only [goK]) | simp only [↓reduceIte, reduceCtorEq]
      refine ⟨v, rfl, ?_, hg, by rw [hg1, hasS, h2], hnx, by simpa using hown⟩
      repeat' first | exact q0c | refine q0b (by simp) ?_
  rintro v g ⟨hg, hg1, hnx, hown⟩
  dsimp only [q0M, q0C, q3x, hasS] at hg hg1 hown
  refine TW.join (fun v : AV => [(1, .ptr 0 0), (2, v), (3, .ptr 1 0)]) (fun v g => Own 1 q0C 2 g v ((q2f x).map cI)) ?_ ?_
  · cases h2 : q1L x.op with
    | true =>
      rw [h2] at hg1
      obtain ⟨v', k', happ, hown', hwb⟩ := Own.more (x := x.args.av cI) (rows' := x.args.list.map cI) (q0Q (gl := gl) (K := K)) q3W hown q1a (lenA_ints _) rfl (src_ints _) q1a q6x (by simp only [List.length_map, List.length_append]; (repeat' split) <;> simp <;> omega) hnx
      dsimp only [q0u, q0C] at happ
      repeat' first | refine TW.seq ?_ | refine TW.condT hP rfl ?_ | (refine TW.regG hP (by simp [hg, hg1, happ] <;> rfl) ?_; dsimp only [goK])
      refine ⟨v', rfl, ?_, ?_⟩
      · repeat' first | exact q0c | refine q0b (by simp) ?_
      · rw [← List.map_append] at hown'; simpa [q2f, h2] using hown'
    | false =>
      rw [h2] at hg1
      repeat' first | refine TW.seq ?_ | refine TW.skip ?_ | refine TW.condF hP rfl ?_ | (refine TW.regG hP (by simp [hg1] <;> rfl) ?_; dsimp only [goK])
      refine ⟨v, rfl, ?_, by simpa [q2f, h2] using hown⟩
      repeat' first | exact q0c | refine q0b (by simp) ?_
  rintro v g hown
  repeat' first | refine TW.seq ?_ | (refine TW.regG hP (by simp <;> rfl) ?_; dsimp only [goK]) | simp only [q0a] | (refine TW.ret ⟨.inr rfl, _, _, rfl, rfl, ?_⟩; dsimp only [q0h])
  exact own_slOf hown
theorem Ends_pure (hP : POk Tryz.prog F gl K) (x : LEnd) : q0y Tryz.prog F q2w [.agg x.cells] (slOf (q2g x)) := by
 refine CallsT.pure (O := fun u g => frzV 3 g u = some (slOf (q2g x))) (k := 3) (by simp) ?_ (fun u g e => e)
 refine CallsT.body hP q0e E_shape_Ends rfl rfl ?_
 by_cases hk : x.kind = 2 ∨ x.kind = 3
 ·rcases hk with hk | hk
  ·repeat' first | refine TW.seq ?_ | refine TW.condT hP rfl ?_ | (refine TW.regG hP (by simp [hk] <;> rfl) ?_; dsimp only [goK]) | simp only [q0a] | (refine TW.ret ⟨.inr rfl, _, _, rfl, rfl, ?_⟩; dsimp only [q0h])
   all_goals first | (simp only [q2g, hk]; rfl)
  ·repeat' first | refine TW.seq ?_ | refine TW.condT hP rfl ?_ | (refine TW.regG hP (by simp [hk] <;> rfl) ?_; dsimp only [goK]) | simp only [q0a] | (refine TW.ret ⟨.inr rfl, _, _, rfl, rfl, ?_⟩; dsimp only [q0h])
   all_goals first | (simp only [q2g, hk]; rfl)
 ·repeat' first | refine TW.seq ?_ | refine TW.skip ?_ | refine TW.condF hP rfl ?_ | (refine TW.regG hP (by simp [(show ¬ x.kind = 2 by omega), (show ¬ x.kind = 3 by omega)] <;> rfl) ?_; dsimp only [goK]) | simp only [q0a] | (refine TW.ret ⟨.inr rfl, _, _, rfl, rfl, ?_⟩; dsimp only [q0h])
  all_goals first | (simp only [q2g, if_neg hk]; rfl)
theorem many_pure (hP : POk Tryz.prog F gl K) (f : LFunc) (hs : SmallF f) : q0y Tryz.prog F q1c [.agg f.cells] (.int .i64 (q0q f.blocks.list)) := by
 refine CallsT.pure (O := fun u _ => u = .int .i64 (q0q f.blocks.list)) (k := 1) (by simp) ?_ (fun u g e => by subst e; rfl)
 refine CallsT.body hP q0e E_shape_many rfl rfl ?_
 have hnb := hs.nb
 have hm := hs.many
 repeat' first | refine TW.seq ?_ | refine TW.block ?_ | (refine TW.regG hP (by simp <;> rfl) ?_; dsimp only [goK])
 refine TW.loopL (fun i : Nat => [(2, .int .i64 (q0q (f.blocks.list.take i))), (6, f.blocks.av LBlock.cells), (7, .int .i64 f.blocks.list.length), (8, .int .i64 i)]) (fun i _ => i ≤ f.blocks.list.length) (fun i => f.blocks.list.length - i) (0) ?_ ?_ ?_
 focus (repeat' first | exact q0c | refine q0b (by simp [q0q]) ?_)
 ·exact Nat.zero_le _
 rintro i g hi
 repeat' first | refine TW.seq ?_ | (refine TW.regG hP (by simp <;> rfl) ?_; dsimp only [goK])
 refine TW.cond hP rfl (fun hc => TW.skip ?_) (fun hc => TW.exit ?_)
 ·simp at hc
  obtain ⟨x, hx⟩ := q0g hc
  have hav := q0z (e := LBlock.cells) (show 0 < f.blocks.list.length by omega)
  have hs := q2X hx
  have h1 := q3h f.blocks.list (i + 1)
  have h2 := q0J (f.blocks.list.take i)
  dsimp only [q0a]
  repeat' first | refine TW.seq ?_ | refine TW.block ?_ | (refine TW.regG hP (by simp [hx, hav] <;> rfl) ?_; dsimp only [goK]) | simp only [q0d]
  refine ⟨i + 1, by omega, trivial, ?_, by omega⟩
  repeat' first | exact q0c | refine q0b (by simp [hav, w64s (show i < 9000000000000000000 by omega), hs, w64e (n := q0q (f.blocks.list.take i) + x.ins.list.length) (by omega) (by omega)]) ?_
 ·simp at hc
  dsimp only [q0a]
  repeat' first | refine TW.seq ?_ | (refine TW.regG hP (by simp <;> rfl) ?_; dsimp only [goK]) | simp only [q0a] | (refine TW.ret ⟨.inr rfl, _, _, rfl, rfl, ?_⟩; dsimp only [q0h])
  rw [List.take_of_length_le hc]
def noHas : List AV := [.bool false, .bool false, .bool false, .bool false, .bool false, .bool false]
theorem eq_has (hE : K.eqT q3x = true) (a b c d e f : Bool) : q0Z (Ctx.of Tryz.prog gl K) .eql q3x (.agg [.bool a, .bool b, .bool c, .bool d, .bool e, .bool f]) (.agg noHas) = some (.bool (!(a || (b || (c || (d || (e || f))))))) := by
 have h1 : (Ctx.of Tryz.prog gl K).eqT q3x = true := hE
 show (bif q6Q (Ctx.of Tryz.prog gl K) q3x _ (.agg noHas) then (match eqA (Ctx.of Tryz.prog gl K) 100 q3x _ (.agg noHas) with | some b => some (AV.bool b) | none => none) else none) = _
 have h2 : q6Q (Ctx.of Tryz.prog gl K) q3x (.agg [.bool a, .bool b, .bool c, .bool d, .bool e, .bool f]) (.agg noHas) = true := h1
 have h3 : eqA (Ctx.of Tryz.prog gl K) 100 q3x (.agg [.bool a, .bool b, .bool c, .bool d, .bool e, .bool f]) (.agg noHas) = some (!(a || (b || (c || (d || (e || f)))))) := by
  dsimp only [q3x] at h1 ⊢
  cases a <;> cases b <;> cases c <;> cases d <;> cases e <;> cases f <;> simp [eqA, eqStep, eqFields, h1, noHas]
 rw [h2, h3]; rfl
def insF (a b n g f s : Bool) (num : Bool) (x : LIns) (z : LSizes) : Bool :=
  (a || (b || (n || (g || (f || s))))) && ((!a || q1V x.a z.regs) && ((!b || q1V x.b z.regs) && (q1U z.regs x.args.list && (num &&
  ((a || decide (x.a = 0)) && ((b || decide (x.b = 0)) && ((n || decide (x.n = 0)) && ((g || decide (x.args.list.length = 0)) && ((f || decide (x.frm.list.length = 0)) &&
  ((if s then q1V x.type z.types else decide (x.type = 0)) && (if f then q1U z.blocks x.frm.list && (decide (x.frm.list.length = x.args.list.length) && (decide (1 ≤ x.frm.list.length) && decide (x.frm.list.length ≤ 16))) else decide (x.args.list.length ≤ 4))))))))))))
set_option maxHeartbeats 4000000 in
theorem ins_p0 (hP : POk Tryz.prog F gl K) (hE : K.eqT q3x = true) (x : LIns) (z : LSizes) (e1 : q0y Tryz.prog F q7A [.int .u8 x.op] (.agg [.bool false, .bool false, .bool false, .bool false, .bool false, .bool false])) (hal : x.args.list.length < 1000000) (hfl : x.frm.list.length < 1000000) : q0y Tryz.prog F q6E [.agg x.cells, .agg z.cells] (.bool (insF false false false false false false (q4d x z) x z)) := by
 refine CallsT.pure (O := fun u _ => u = .bool (insF false false false false false false (q4d x z) x z)) (k := 1) (by simp) ?_ (fun u g e => by subst e; rfl)
 refine CallsT.body hP q0e E_shape_ins rfl rfl ?_
 have heq := eq_has (gl := gl) hE false false false false false false
 dsimp only [noHas, q3x] at heq
 have ea := q1N hP x.a z.regs
 have eb := q1N hP x.b z.regs
 have et := q1N hP x.type z.types
 have el := all_pure hP z.regs x.args hal
 have ef := all_pure hP z.blocks x.frm hfl
 have en := number_pure hP x z
 refine TW.seq (TW.regG hP (by simp <;> rfl) ?_)
 dsimp only [goK, q0a, q0f, q0d]
 repeat refine TW.seq ?_
 refine TW.regG hP (by simp <;> rfl) ?_
 dsimp only [goK]
 refine TO.scall hP q9J (e1) (by simp) rfl rfl rfl rfl ?_
 refine TO.runsG hP (by simp <;> rfl) ?_
 dsimp only [goK, q0a]
 refine TW.gen (fun g => g.get 0 = some (.cells q0M x.cells) ∧ g.get 1 = some (.cells q2Z z.cells) ∧ g.get 2 = some (.cells q3x [.bool false, .bool false, .bool false, .bool false, .bool false, .bool false])) ⟨by simp [get_put], by simp [get_put], by simp [get_put]⟩ fun g hgg => ?_
 obtain ⟨hg0, hg1, hg2⟩ := hgg
 dsimp only [q0M, q2Z, q3x] at hg0 hg1 hg2
 refine TW.join (fun _ : Unit => [(2, .ptr 0 0), (3, .ptr 1 0), (5, .ptr 2 0)]) (fun _ g => g.get 0 = some (.cells q0M x.cells) ∧ g.get 1 = some (.cells q2Z z.cells) ∧ g.get 2 = some (.cells q3x [.bool false, .bool false, .bool false, .bool false, .bool false, .bool false]) ∧ False) ?_ ?_
 ·repeat' first | refine TW.seq ?_ | refine TW.condT hP rfl ?_ | (refine TW.regG hP (by simp [hg0, hg1, hg2, heq] <;> rfl) ?_; dsimp only [goK]) | simp only [q0a, q0f, q0d, ↓reduceIte, Nat.reduceEqDiff, reduceCtorEq] | (refine TW.ret ⟨.inr rfl, _, _, rfl, rfl, ?_⟩; dsimp only [q0h])
  all_goals clear ea eb et el ef en e1 heq
  all_goals first | (focus (simp_all [insF]; done))
 rintro _ g ⟨_, _, _, h⟩
 exact h.elim
set_option maxHeartbeats 4000000 in
theorem q3G (hP : POk Tryz.prog F gl K) (hE : K.eqT q3x = true) (x : LIns) (z : LSizes) {b0 b1 b2 b3 b4 b5 : Bool} (hbs : (b0, b1, b2, b3, b4, b5) ∈ [(false, false, true, false, false, true), (false, false, false, false, false, true), (true, true, false, false, false, true), (true, false, false, false, false, false), (true, false, true, false, false, true), (true, false, false, false, false, true), (true, true, false, false, false, false), (false, false, true, true, false, true), (true, false, false, true, false, true), (false, false, false, true, true, true)]) (e1 : q0y Tryz.prog F q7A [.int .u8 x.op] (.agg [.bool b0, .bool b1, .bool b2, .bool b3, .bool b4, .bool b5])) (hal : x.args.list.length < 1000000) (hfl : x.frm.list.length < 1000000) : q0y Tryz.prog F q6E [.agg x.cells, .agg z.cells] (.bool (insF b0 b1 b2 b3 b4 b5 (q4d x z) x z)) := by
 refine CallsT.pure (O := fun u _ => u = .bool (insF b0 b1 b2 b3 b4 b5 (q4d x z) x z)) (k := 1) (by simp) ?_ (fun u g e => by subst e; rfl)
 refine CallsT.body hP q0e E_shape_ins rfl rfl ?_
 simp only [List.mem_cons, Prod.mk.injEq, List.not_mem_nil, or_false] at hbs
 have heq := eq_has (gl := gl) hE b0 b1 b2 b3 b4 b5
 dsimp only [noHas, q3x] at heq
 have ea := q1N hP x.a z.regs
 have eb := q1N hP x.b z.regs
 have et := q1N hP x.type z.types
 have el := all_pure hP z.regs x.args hal
 have ef := all_pure hP z.blocks x.frm hfl
 have en := number_pure hP x z
 refine TW.seq (TW.regG hP (by simp <;> rfl) ?_)
 dsimp only [goK, q0a, q0f, q0d]
 repeat refine TW.seq ?_
 refine TW.regG hP (by simp <;> rfl) ?_
 dsimp only [goK]
 refine TO.scall hP q9J (e1) (by simp) rfl rfl rfl rfl ?_
 refine TO.runsG hP (by simp <;> rfl) ?_
 dsimp only [goK, q0a]
 refine TW.gen (fun g => g.get 0 = some (.cells q0M x.cells) ∧ g.get 1 = some (.cells q2Z z.cells) ∧ g.get 2 = some (.cells q3x [.bool b0, .bool b1, .bool b2, .bool b3, .bool b4, .bool b5])) ⟨by simp [get_put], by simp [get_put], by simp [get_put]⟩ fun g hgg => ?_
 obtain ⟨hg0, hg1, hg2⟩ := hgg
 dsimp only [q0M, q2Z, q3x] at hg0 hg1 hg2
 refine TW.join (fun _ : Unit => [(2, .ptr 0 0), (3, .ptr 1 0), (5, .ptr 2 0)]) (fun _ g => g.get 0 = some (.cells q0M x.cells) ∧ g.get 1 = some (.cells q2Z z.cells) ∧ g.get 2 = some (.cells q3x [.bool b0, .bool b1, .bool b2, .bool b3, .bool b4, .bool b5]) ∧ (b0 = true → q1V x.a z.regs = true) ∧ (b1 = true → q1V x.b z.regs = true) ∧ q1U z.regs x.args.list = true ∧ q4d x z = true) ?_ ?_
 ·rcases hbs with ⟨rfl, rfl, rfl, rfl, rfl, rfl⟩ | ⟨rfl, rfl, rfl, rfl, rfl, rfl⟩ | ⟨rfl, rfl, rfl, rfl, rfl, rfl⟩ | ⟨rfl, rfl, rfl, rfl, rfl, rfl⟩ | ⟨rfl, rfl, rfl, rfl, rfl, rfl⟩ | ⟨rfl, rfl, rfl, rfl, rfl, rfl⟩ | ⟨rfl, rfl, rfl, rfl, rfl, rfl⟩ | ⟨rfl, rfl, rfl, rfl, rfl, rfl⟩ | ⟨rfl, rfl, rfl, rfl, rfl, rfl⟩ | ⟨rfl, rfl, rfl, rfl, rfl, rfl⟩
  repeat' first | refine TW.seq ?_ | refine TW.skip ?_ | refine TW.condT hP rfl ?_ | (refine TW.regG hP (by simp [hg0, hg1, hg2, heq] <;> rfl) ?_; dsimp only [goK]) | (refine q0E (fun hb => ?_) (fun hb => ?_) <;> (try simp only [Bool.not_eq_eq_eq_not, Bool.not_true, Bool.not_false] at hb) <;> (refine q2c (by simp [hb, hg0, hg1, hg2, heq] <;> rfl) ?_; dsimp only [goK])) | (refine TO.scall hP q0D (ea) ?_ rfl rfl rfl rfl ?_; (focus (simp; done)); refine TO.runsG hP (by simp [hg0, hg1, hg2, heq] <;> rfl) ?_; dsimp only [goK]) | (refine TO.scall hP q0D (eb) ?_ rfl rfl rfl rfl ?_; (focus (simp; done)); refine TO.runsG hP (by simp [hg0, hg1, hg2, heq] <;> rfl) ?_; dsimp only [goK]) | (refine TO.scall hP I_shape_all (el) ?_ rfl rfl rfl rfl ?_; (focus (simp; done)); refine TO.runsG hP (by simp [hg0, hg1, hg2, heq] <;> rfl) ?_; dsimp only [goK]) | (refine TO.scall hP I_shape_number (en) ?_ rfl rfl rfl rfl ?_; (focus (simp; done)); refine TO.runsG hP (by simp [hg0, hg1, hg2, heq] <;> rfl) ?_; dsimp only [goK]) | simp only [q0a, q0f, q0d, ↓reduceIte, Nat.reduceEqDiff, reduceCtorEq] | (refine TW.cond hP rfl (fun hc => ?_) (fun hc => ?_) <;> simp at hc) | (refine TW.ret ⟨.inr rfl, _, _, rfl, rfl, ?_⟩; dsimp only [q0h])
  all_goals clear ea eb et el ef en e1 heq
  all_goals first | (refine ⟨(), rfl, ?_, hg0, hg1, hg2, ?_, ?_, ?_, ?_⟩ <;> first | (focus ((repeat' first | exact q0c | refine q0b (by simp) ?_); done)) | (focus (simp_all; done))) | (focus (simp_all [insF]; done))
 rintro _ g ⟨hg0, hg1, hg2, ha1, ha2, ha3, ha4⟩
 dsimp only [q0M, q2Z, q3x] at hg0 hg1 hg2
 rcases hbs with ⟨rfl, rfl, rfl, rfl, rfl, rfl⟩ | ⟨rfl, rfl, rfl, rfl, rfl, rfl⟩ | ⟨rfl, rfl, rfl, rfl, rfl, rfl⟩ | ⟨rfl, rfl, rfl, rfl, rfl, rfl⟩ | ⟨rfl, rfl, rfl, rfl, rfl, rfl⟩ | ⟨rfl, rfl, rfl, rfl, rfl, rfl⟩ | ⟨rfl, rfl, rfl, rfl, rfl, rfl⟩ | ⟨rfl, rfl, rfl, rfl, rfl, rfl⟩ | ⟨rfl, rfl, rfl, rfl, rfl, rfl⟩ | ⟨rfl, rfl, rfl, rfl, rfl, rfl⟩
 repeat' first | refine TW.seq ?_ | refine TW.skip ?_ | refine TW.condT hP rfl ?_ | refine TW.condF hP rfl ?_ | (refine TW.regG hP (by simp [hg0, hg1, hg2] <;> rfl) ?_; dsimp only [goK]) | (refine q0E (fun hb => ?_) (fun hb => ?_) <;> (try simp only [Bool.not_eq_eq_eq_not, Bool.not_true, Bool.not_false] at hb) <;> (refine q2c (by simp [hb, hg0, hg1, hg2] <;> rfl) ?_; dsimp only [goK])) | (refine TO.scall hP q0D (et) ?_ rfl rfl rfl rfl ?_; (focus (simp; done)); refine TO.runsG hP (by simp [hg0, hg1, hg2] <;> rfl) ?_; dsimp only [goK]) | (refine TO.scall hP I_shape_all (ef) ?_ rfl rfl rfl rfl ?_; (focus (simp; done)); refine TO.runsG hP (by simp [hg0, hg1, hg2] <;> rfl) ?_; dsimp only [goK]) | simp only [q0a, q0f, q0d, ↓reduceIte, Nat.reduceEqDiff, reduceCtorEq] | (refine TW.ret ⟨.inr rfl, _, _, rfl, rfl, ?_⟩; dsimp only [q0h])
 all_goals clear ea eb et el ef en e1 heq hg0 hg1 hg2
 all_goals first | (focus (simp_all [insF]; done)) | (focus (simp_all [insF]; omega)) | (focus (rw [AV.bool.injEq, Bool.eq_iff_iff]; simp_all [insF]; omega)) | (focus (rcases Nat.eq_zero_or_pos x.frm.list.length with hz | hz; (exfalso; simp only [decide_eq_true_eq, decide_eq_false_iff_not] at *; omega); (rw [insF, decide_eq_false (Nat.ne_of_gt hz)]; simp); done)) | (focus (rcases Nat.eq_zero_or_pos x.args.list.length with hz | hz; (exfalso; simp only [decide_eq_true_eq, decide_eq_false_iff_not] at *; omega); (rw [insF, decide_eq_false (Nat.ne_of_gt hz)]; simp); done))
theorem lower_uses (x : LIns) (k : Int) : q2s (q2f x) k = ((!q2Y x.op || q1V x.a k) && ((!two6 x.op || q1V x.b k) && (!q1L x.op || q1U k x.args.list))) := by
 unfold q2f q2s q1V q1U
 rw [List.all_append, List.all_append]
 cases q2Y x.op <;> cases two6 x.op <;> cases q1L x.op <;> simp
theorem thereS_nil {k : Int} {l : List Int} (h : l.length = 0) : q1U k l = true := by
 rw [List.eq_nil_of_length_eq_zero h]; rfl
theorem insF_eq (x : LIns) (z : LSizes) : insF (q2Y x.op) (two6 x.op) (hasN6 x.op) (q1L x.op) (decide (x.op = 22)) (q3z x.op) (q4d x z) x z = q2a z.types z.funcs x z.regs z.blocks := by
 have h0 := thereS_nil (k := z.regs) (l := x.args.list)
 have h1 : (q2Y x.op || (two6 x.op || (hasN6 x.op || (q1L x.op || (decide (x.op = 22) || q3z x.op))))) = (decide (1 ≤ x.op) && decide (x.op ≤ 22)) := by
  rw [Bool.eq_iff_iff]
  simp [q2Y, two6, hasN6, q1L, q3z]
  omega
 have h2 : (q4d x z && (hasN6 x.op || decide (x.n = 0))) = mayN6 z.funcs x := by
  rw [Bool.eq_iff_iff]
  unfold q4d mayN6 hasN6
  by_cases a1 : x.op = 1
  ·simp [a1]
  by_cases a2 : x.op = 3
  ·simp [a2]
  by_cases a3 : x.op = 18
  ·simp [a3]
  by_cases a4 : x.op = 14
  ·simp [a4]
  simp [a1, a2, a3, a4]
 have h3 : x.op = 22 → q1L x.op = true := fun h => by rw [h]; rfl
 unfold insF q2a mayInsA mayInsB mayInsC mayInsD
 rw [h1, lower_uses, ← h2]
 rw [show q2s x.frm.list z.blocks = q1U z.blocks x.frm.list from rfl]
 clear h1 h2
 generalize q4d x z = nu at *
 generalize hasN6 x.op = hn at *
 generalize q2Y x.op = ha at *
 generalize two6 x.op = h2 at *
 generalize q1L x.op = hg at *
 generalize q3z x.op = hs at *
 generalize q1U z.regs x.args.list = tr at *
 generalize q1U z.blocks x.frm.list = tb at *
 generalize x.args.list.length = na at *
 generalize x.frm.list.length = nf at *
 unfold q1V
 rw [Bool.eq_iff_iff]
 cases nu
 ·simp
 by_cases h22 : x.op = 22
 ·have hgt := h3 h22
  subst hgt
  simp only [h22, decide_true, if_true]
  cases hs <;> cases ha <;> cases h2 <;> cases hn <;> cases tr <;> cases tb <;> simp <;> omega
 ·simp only [h22, decide_false, if_false]
  cases hs <;> cases hg <;> cases ha <;> cases h2 <;> cases hn <;> cases tr <;> simp at h0 ⊢ <;> omega
theorem ins_pure (hP : POk Tryz.prog F gl K) (hG : gl q1n = .iptr [q1s] 0 0) (hE : K.eqT q3x = true) (x : LIns) (z : LSizes) (h0 : 0 ≤ x.op) (h1 : x.op < 256) (hal : x.args.list.length < 900000) (hfl : x.frm.list.length < 900000) : q0y Tryz.prog F q6E [.agg x.cells, .agg z.cells] (.bool (q2a z.types z.funcs x z.regs z.blocks)) := by
  have e1 := of_pure hP hG x.op h0 h1
  have he := insF_eq x z
  obtain ⟨n, hn⟩ := Int.eq_ofNat_of_zero_le h0
  rw [← he]
  clear he
  by_cases h23 : n < 23
  · match n, hn, h23 with
    | 0, hn, _ =>
      have hn : x.op = 0 := hn
      rw [show hasS x.op = hasS 0 by rw [hn]] at e1
      have := ins_p0 hP hE x z e1 (by omega) (by omega)
      rw [hn]; exact this
    | 1, hn, _ =>
      have hn : x.op = 1 := hn
      rw [show hasS x.op = hasS 1 by rw [hn]] at e1
      have := q3G hP hE x z (by decide) e1 (by omega) (by omega)
      rw [hn]; exact this
    | 2, hn, _ =>
      have hn : x.op = 2 := hn
      rw [show hasS x.op = hasS 2 by rw [hn]] at e1
      have := q3G hP hE x z (by decide) e1 (by omega) (by omega)
      rw [hn]; exact this
    | 3, hn, _ =>
      have hn : x.op = 3 := hn
      rw [show hasS x.op = hasS 3 by rw [hn]] at e1
      have := q3G hP hE x z (by decide) e1 (by omega) (by omega)
      rw [hn]; exact this
    | 4, hn, _ =>
      have hn : x.op = 4 := hn
      rw [show hasS x.op = hasS 4 by rw [hn]] at e1
      have := q3G hP hE x z (by decide) e1 (by omega) (by omega)
      rw [hn]; exact this
    | 5, hn, _ =>
      have hn : x.op = 5 := hn
      rw [show hasS x.op = hasS 5 by rw [hn]] at e1
      have := q3G hP hE x z (by decide) e1 (by omega) (by omega)
      rw [hn]; exact this
    | 6, hn, _ =>
      have hn : x.op = 6 := hn
      rw [show hasS x.op = hasS 6 by rw [hn]] at e1
      have := q3G hP hE x z (by decide) e1 (by omega) (by omega)
      rw [hn]; exact this
    | 7, hn, _ =>
      have hn : x.op = 7 := hn
      rw [show hasS x.op = hasS 7 by rw [hn]] at e1
      have := q3G hP hE x z (by decide) e1 (by omega) (by omega)
      rw [hn]; exact this
    | 8, hn, _ =>
      have hn : x.op = 8 := hn
      rw [show hasS x.op = hasS 8 by rw [hn]] at e1
      have := q3G hP hE x z (by decide) e1 (by omega) (by omega)
      rw [hn]; exact this
    | 9, hn, _ =>
      have hn : x.op = 9 := hn
      rw [show hasS x.op = hasS 9 by rw [hn]] at e1
      have := q3G hP hE x z (by decide) e1 (by omega) (by omega)
      rw [hn]; exact this
    | 10, hn, _ =>
      have hn : x.op = 10 := hn
      rw [show hasS x.op = hasS 10 by rw [hn]] at e1
      have := q3G hP hE x z (by decide) e1 (by omega) (by omega)
      rw [hn]; exact this
    | 11, hn, _ =>
      have hn : x.op = 11 := hn
      rw [show hasS x.op = hasS 11 by rw [hn]] at e1
      have := q3G hP hE x z (by decide) e1 (by omega) (by omega)
      rw [hn]; exact this
    | 12, hn, _ =>
      have hn : x.op = 12 := hn
      rw [show hasS x.op = hasS 12 by rw [hn]] at e1
      have := q3G hP hE x z (by decide) e1 (by omega) (by omega)
      rw [hn]; exact this
    | 13, hn, _ =>
      have hn : x.op = 13 := hn
      rw [show hasS x.op = hasS 13 by rw [hn]] at e1
      have := q3G hP hE x z (by decide) e1 (by omega) (by omega)
      rw [hn]; exact this
    | 14, hn, _ =>
      have hn : x.op = 14 := hn
      rw [show hasS x.op = hasS 14 by rw [hn]] at e1
      have := q3G hP hE x z (by decide) e1 (by omega) (by omega)
      rw [hn]; exact this
    | 15, hn, _ =>
      have hn : x.op = 15 := hn
      rw [show hasS x.op = hasS 15 by rw [hn]] at e1
      have := q3G hP hE x z (by decide) e1 (by omega) (by omega)
      rw [hn]; exact this
    | 16, hn, _ =>
      have hn : x.op = 16 := hn
      rw [show hasS x.op = hasS 16 by rw [hn]] at e1
      have := q3G hP hE x z (by decide) e1 (by omega) (by omega)
      rw [hn]; exact this
    | 17, hn, _ =>
      have hn : x.op = 17 := hn
      rw [show hasS x.op = hasS 17 by rw [hn]] at e1
      have := q3G hP hE x z (by decide) e1 (by omega) (by omega)
      rw [hn]; exact this
    | 18, hn, _ =>
      have hn : x.op = 18 := hn
      rw [show hasS x.op = hasS 18 by rw [hn]] at e1
      have := q3G hP hE x z (by decide) e1 (by omega) (by omega)
      rw [hn]; exact this
    | 19, hn, _ =>
      have hn : x.op = 19 := hn
      rw [show hasS x.op = hasS 19 by rw [hn]] at e1
      have := q3G hP hE x z (by decide) e1 (by omega) (by omega)
      rw [hn]; exact this
    | 20, hn, _ =>
      have hn : x.op = 20 := hn
      rw [show hasS x.op = hasS 20 by rw [hn]] at e1
      have := q3G hP hE x z (by decide) e1 (by omega) (by omega)
      rw [hn]; exact this
    | 21, hn, _ =>
      have hn : x.op = 21 := hn
      rw [show hasS x.op = hasS 21 by rw [hn]] at e1
      have := q3G hP hE x z (by decide) e1 (by omega) (by omega)
      rw [hn]; exact this
    | 22, hn, _ =>
      have hn : x.op = 22 := hn
      rw [show hasS x.op = hasS 22 by rw [hn]] at e1
      have := q3G hP hE x z (by decide) e1 (by omega) (by omega)
      rw [hn]; exact this
    | n + 23, _, h => exact absurd h (by omega)
  · have ho := hasS_out (op := x.op) (by omega)
    rw [ho] at e1
    have := ins_p0 hP hE x z e1 (by omega) (by omega)
    simp only [hasS, List.cons.injEq, AV.bool.injEq] at ho
    rw [ho.1, ho.2.1, ho.2.2.1, ho.2.2.2.1, ho.2.2.2.2.1, ho.2.2.2.2.2.1]
    exact this
theorem eq_end (hE : K.eqT q6o = true) (x y : LEnd) : q0Z (Ctx.of Tryz.prog gl K) .eql q6o (.agg x.cells) (.agg y.cells) = some (.bool (q6r x y)) := by
 have h1 : (Ctx.of Tryz.prog gl K).eqT q6o = true := hE
 show (bif q6Q (Ctx.of Tryz.prog gl K) q6o (.agg x.cells) (.agg y.cells) then (match eqA (Ctx.of Tryz.prog gl K) 100 q6o (.agg x.cells) (.agg y.cells) with | some b => some (AV.bool b) | none => none) else none) = _
 have h2 : q6Q (Ctx.of Tryz.prog gl K) q6o (.agg x.cells) (.agg y.cells) = true := h1
 have h3 : eqA (Ctx.of Tryz.prog gl K) 100 q6o (.agg x.cells) (.agg y.cells) = some (q6r x y) := by
  dsimp only [q6o] at h1 ⊢
  by_cases e1 : x.kind = y.kind <;> by_cases e2 : x.a = y.a <;> by_cases e3 : x.to = y.to <;> by_cases e4 : x.els = y.els <;>
   simp [eqA, eqStep, eqFields, h1, q6r, e1, e2, e3, e4, q2t, q8L, LEnd.cells]
 rw [h2, h3]; rfl
theorem end_pure (hP : POk Tryz.prog F gl K) (hE : K.eqT q6o = true) (x : LEnd) (z : LSizes) : q0y Tryz.prog F z0E [.agg x.cells, .agg z.cells] (.bool (q3J x z.regs z.blocks)) := by
 refine CallsT.pure (O := fun u _ => u = .bool (q3J x z.regs z.blocks)) (k := 1) (by simp) ?_ (fun u g e => by subst e; rfl)
 refine CallsT.body hP q0e E_shape_end rfl rfl ?_
 have q1 := eq_end (gl := gl) hE x ⟨x.kind, 0, x.to, 0⟩
 have q2 := eq_end (gl := gl) hE x ⟨x.kind, x.a, 0, 0⟩
 dsimp only [q6o, LEnd.cells] at q1 q2
 have ea := q1N hP x.a z.regs
 have et := q1N hP x.to z.blocks
 have ee := q1N hP x.els z.blocks
 by_cases h1 : x.kind = 1
 ·rw [h1] at q1
  repeat' first | refine TW.seq ?_ | refine TW.block ?_ | refine TW.condT hP rfl ?_ | (refine TW.regG hP (by simp [h1, q1] <;> rfl) ?_; dsimp only [goK]) | (refine q0E (fun hb => ?_) (fun hb => ?_) <;> (try simp only [Bool.not_eq_eq_eq_not, Bool.not_true, Bool.not_false] at hb) <;> (refine q2c (by simp [hb] <;> rfl) ?_; dsimp only [goK])) | (refine TO.scall hP q0D (et) ?_ rfl rfl rfl rfl ?_; (focus (simp; done)); refine TO.runsG hP (by simp <;> rfl) ?_; dsimp only [goK]) | simp only [q0a] | (refine TW.ret ⟨.inr rfl, _, _, rfl, rfl, ?_⟩; dsimp only [q0h])
  all_goals clear ea et ee
  all_goals (rw [AV.bool.injEq, Bool.eq_iff_iff]; simp_all [q3J, q6r, q2s, q1V]; try omega)
 by_cases h2 : x.kind = 2
 ·repeat' first | refine TW.seq ?_ | refine TW.block ?_ | refine TW.condT hP rfl ?_ | refine TW.condF hP rfl ?_ | (refine TW.regG hP (by simp [h2] <;> rfl) ?_; dsimp only [goK]) | (refine q0E (fun hb => ?_) (fun hb => ?_) <;> (try simp only [Bool.not_eq_eq_eq_not, Bool.not_true, Bool.not_false] at hb) <;> (refine q2c (by simp [hb] <;> rfl) ?_; dsimp only [goK])) | (refine TO.scall hP q0D (ea) ?_ rfl rfl rfl rfl ?_; (focus (simp; done)); refine TO.runsG hP (by simp <;> rfl) ?_; dsimp only [goK]) | (refine TO.scall hP q0D (et) ?_ rfl rfl rfl rfl ?_; (focus (simp; done)); refine TO.runsG hP (by simp <;> rfl) ?_; dsimp only [goK]) | (refine TO.scall hP q0D (ee) ?_ rfl rfl rfl rfl ?_; (focus (simp; done)); refine TO.runsG hP (by simp <;> rfl) ?_; dsimp only [goK]) | simp only [q0a] | (refine TW.ret ⟨.inr rfl, _, _, rfl, rfl, ?_⟩; dsimp only [q0h])
  all_goals clear ea et ee q1 q2
  all_goals (rw [AV.bool.injEq, Bool.eq_iff_iff]; simp_all [q3J, q2s, q1V]; try omega)
 by_cases h3 : x.kind = 3
 ·rw [h3] at q2
  repeat' first | refine TW.seq ?_ | refine TW.block ?_ | refine TW.condT hP rfl ?_ | refine TW.condF hP rfl ?_ | (refine TW.regG hP (by simp [h3, q2] <;> rfl) ?_; dsimp only [goK]) | (refine q0E (fun hb => ?_) (fun hb => ?_) <;> (try simp only [Bool.not_eq_eq_eq_not, Bool.not_true, Bool.not_false] at hb) <;> (refine q2c (by simp [hb] <;> rfl) ?_; dsimp only [goK])) | (refine TO.scall hP q0D (ea) ?_ rfl rfl rfl rfl ?_; (focus (simp; done)); refine TO.runsG hP (by simp <;> rfl) ?_; dsimp only [goK]) | simp only [q0a] | (refine TW.ret ⟨.inr rfl, _, _, rfl, rfl, ?_⟩; dsimp only [q0h])
  all_goals clear ea et ee
  all_goals (rw [AV.bool.injEq, Bool.eq_iff_iff]; simp_all [q3J, q6r, q2s, q1V]; try omega)
 repeat' first | refine TW.seq ?_ | refine TW.block ?_ | refine TW.skip ?_ | refine TW.condF hP rfl ?_ | (refine TW.regG hP (by simp [h1, h2, h3] <;> rfl) ?_; dsimp only [goK]) | simp only [q0a] | (refine TW.ret ⟨.inr rfl, _, _, rfl, rfl, ?_⟩; dsimp only [q0h])
 all_goals clear ea et ee
 all_goals simp [q3J, h1, h2, h3]
structure OpsOk (f : LFunc) : Prop where
 op : ∀ b ∈ f.blocks.list, ∀ x ∈ b.ins.list, 0 ≤ x.op ∧ x.op < 256
structure Env (F : Nat → Option Obj) (gl : Nat → AV) (K : Knob) : Prop where
 P : POk Tryz.prog F gl K
 G : gl q1n = .iptr [q1s] 0 0
 H : K.eqT q3x = true
 E : K.eqT q6o = true
 X : ∀ f a, K.ext f a = none
theorem fn1_qt (hV : Env F gl K) (x : LIns) (z : LSizes) (h : Hp) (r : Nat) (hr : h.get r = some (.cells q2Z z.cells)) (hrn : r < h.nx) (h0 : 0 ≤ x.op ∧ x.op < 256) (hal : x.args.list.length < 900000) (hfl : x.frm.list.length < 900000) :
  Qt Tryz.prog F h (.bool (!q2a z.types z.funcs x z.regs z.blocks)) q1B [.agg x.cells, .ptr r 0] := by
 have hP := hV.P
 refine CallsT.body hP q0e E_shape_function_1 rfl rfl ?_
 have e1 := ins_pure hP hV.G hV.H x z h0.1 h0.2 hal hfl
 dsimp only [q2Z] at hr
 refine TW.seq (TW.regG hP (by simp <;> rfl) ?_)
 dsimp only [goK, q0a, q0f, q0d]
 refine TW.gen (fun g => g.get h.nx = some (.cells q0M x.cells) ∧ g.get r = some (.cells q2Z z.cells) ∧ Wid h g) ⟨by simp, by rw [get_new, if_neg (by omega)]; exact hr, (Wid.refl h).new _⟩ fun g hg => ?_
 obtain ⟨g1, g2, hw⟩ := hg
 dsimp only [q0M, q2Z] at g1 g2
 repeat' first | refine TW.seq ?_ | (refine TW.regG hP (by simp [g1, g2] <;> rfl) ?_; dsimp only [goK]) | (refine TO.scall hP I_shape_ins (e1) ?_ rfl rfl rfl rfl ?_; (focus (simp; done)); refine TO.runsG hP (by simp <;> rfl) ?_; dsimp only [goK]) | simp only [q0a]
 refine TW.ret ⟨.inr rfl, g, _, rfl, rfl, ?_, hw⟩
 simp [q0h]
theorem fn2_qt (hV : Env F gl K) (b : LBlock) (z : LSizes) (h : Hp) (r q : Nat) (hr : h.get r = some (.cells q2Z z.cells)) (hrn : r < h.nx) (e : TypeId) (hq : h.get q = some (.cells e [.fn (.func q1B) [] [.ptr r 0]])) (hqn : q < h.nx) (hil : b.ins.list.length < 1000000) (h0 : ∀ x ∈ b.ins.list, (0 ≤ x.op ∧ x.op < 256) ∧ x.args.list.length < 900000 ∧ x.frm.list.length < 900000) :
    Qt Tryz.prog F h (.bool (!(b.ins.list.all (fun x => q2a z.types z.funcs x z.regs z.blocks) && q3J b.ed z.regs z.blocks))) q3j [.agg b.cells, .ptr q 0, .ptr r 0] := by
  have hP := hV.P
  refine CallsT.body hP q0e E_shape_function_2 rfl rfl ?_
  have e1 := end_pure hP hV.E b.ed z
  dsimp only [q2Z] at hr
  refine TW.seq (TW.regG hP (by simp <;> rfl) ?_)
  dsimp only [goK, q0a, q0f, q0d]
  refine TW.gen (fun g => g.get h.nx = some (.cells q0s b.cells) ∧ g.get r = some (.cells q2Z z.cells) ∧ g.get q = some (.cells e [.fn (.func q1B) [] [.ptr r 0]]) ∧ Wid h g ∧ h.nx < g.nx) ⟨by simp, by rw [get_new, if_neg (by omega)]; exact hr, by rw [get_new, if_neg (by omega)]; exact hq, (Wid.refl h).new _, by simp⟩ fun g hg => ?_
  obtain ⟨g1, g2, g3, hw, hwn⟩ := hg
  dsimp only [q0s, q2Z, LBlock.cells, LEnd.cells] at g1 g2
  have e2 := ContainsFunc_inss hP b.ins q1B [.ptr r 0] (fun x => !q2a z.types z.funcs x z.regs z.blocks) I_shape_function_1 g hil (fun x hx h' hw' => fn1_qt hV x z h' r (hw'.at g2 (by omega)) (by have := hw'.nx; omega) (h0 x hx).1 (h0 x hx).2.1 (h0 x hx).2.2)
  have hall : b.ins.list.any (fun x => !q2a z.types z.funcs x z.regs z.blocks) = !b.ins.list.all (fun x => q2a z.types z.funcs x z.regs z.blocks) := by
    rw [List.not_all_eq_any_not]
  rw [hall] at e2
  repeat' first | refine TW.seq ?_ | (refine TW.regG hP (by simp [g1, g3] <;> rfl) ?_; dsimp only [goK])
  cases hA : b.ins.list.all (fun x => q2a z.types z.funcs x z.regs z.blocks) with
  | true =>
    rw [hA] at e2
    refine TO.qcall hP q1Z e2 (by simp) rfl rfl rfl rfl fun k hk => ?_
    have k1 := hk.at g1 (by omega)
    have k2 := hk.at g2 (by omega)
    refine TO.runsG hP (by simp [k1, k2] <;> rfl) ?_
    dsimp only [goK]
    repeat' first | (refine TO.scall hP I_shape_end (e1) ?_ rfl rfl rfl rfl ?_; (focus (simp; done)); refine TO.runsG hP (by simp <;> rfl) ?_; dsimp only [goK]) | simp only [q0a]
    refine TW.ret ⟨.inr rfl, k, _, rfl, rfl, ?_, hw.trans hk⟩
    simp [q0h]
  | false =>
    rw [hA] at e2
    refine TO.qcall hP q1Z (e2) (by simp) rfl rfl rfl rfl fun k hk => ?_
    refine TO.runsG hP (by simp <;> rfl) ?_
    try dsimp only [goK]
    repeat' first | simp only [q0a]
    refine TW.ret ⟨.inr rfl, k, _, rfl, rfl, ?_, hw.trans hk⟩
    simp [q0h]
theorem av_both {α : Type} {e : α → List AV} (x : Sl α) : (x.av e = .nilsl ∧ x.list.length = 0) ∨ x.av e = .isl (x.list.map e) := by cases x <;> simp [Sl.av, Sl.list]
theorem function_pure (hV : Env F gl K) (p : LProg) (f : LFunc) (hs : SmallF f) (ho : OpsOk f) (hp : ∀ x ∈ p.types.list, x.parts.list.length < 900000) : q0y Tryz.prog F q5Q [.agg p.cells, .agg f.cells] (.bool (q0I p f)) := by
  have hP := hV.P
  have hX := hV.X
  have hnb := hs.nb
  have hsm := hs.many
  have e1 := many_pure hP f hs
  have ea := q1N hP f.sig p.types.list.length
  have eb := q1N hP (f.blocks.list.length - 1) 16
  have hw1 := w64e (n := (f.blocks.list.length : Int) - 1) (by omega) (by omega)
  refine CallsT.pure (O := fun u _ => u = .bool (q0I p f)) (k := 1) (by simp) ?_ (fun u g e => by subst e; rfl)
  refine CallsT.body hP q0e E_shape_function rfl rfl ?_
  refine TW.seq (TW.regG hP (by simp <;> rfl) ?_)
  dsimp only [goK, q0a, q0f, q0d]
  refine TW.gen (fun g => g.get 0 = some (.cells q0k p.cells) ∧ g.get 1 = some (.cells q0R f.cells) ∧ g.nx = 2) ⟨by simp, by simp, by simp⟩ fun g hgg => ?_
  obtain ⟨hg0, hg1, hnx⟩ := hgg
  dsimp only [q0R, q0k] at hg0 hg1
  refine TW.join (fun _ : Unit => [(2, .ptr 0 0), (3, .ptr 1 0)]) (fun _ g => g.get 0 = some (.cells q0k p.cells) ∧ g.get 1 = some (.cells q0R f.cells) ∧ g.nx = 2 ∧ q2G p f = false) ?_ ?_
  · by_cases h0 : 0 ≤ f.sig
    · obtain ⟨n, hn⟩ := Int.eq_ofNat_of_zero_le h0
      by_cases h1 : n < p.types.list.length
      · obtain ⟨x, hx⟩ := q0g h1
        have hav := q0z (e := LType.cells) (show 0 < p.types.list.length by omega)
        have hk : q7J p f = x.kind := by simp [q7J, hn, hx]
        have hnl : ¬ (p.types.list.length : Int) ≤ f.sig := by omega
        have h01 : ¬ f.sig < 0 := by omega
        have ha : q1V f.sig p.types.list.length = true := by simp [q1V]; omega
        rw [ha, hn] at ea
        have e1' := e1
        dsimp only [LFunc.cells] at e1'
        rw [hn] at e1'
        cases hb16 : q1V (f.blocks.list.length - 1) 16 with
        | true =>
          rw [hb16] at eb
          simp [q1V] at hb16
          repeat' first | refine TW.seq ?_ | refine TW.skip ?_ | refine TW.condT hP rfl ?_ | (refine TW.regG hP (by simp [hg0, hg1, hn, hav] <;> rfl) ?_; dsimp only [goK]) | (refine q0E (fun hb => ?_) (fun hb => ?_) <;> (try simp only [Bool.not_eq_eq_eq_not, Bool.not_true, Bool.not_false] at hb) <;> (refine q2c (by simp [hb, hg1, hn, hw1] <;> rfl) ?_; dsimp only [goK])) | (refine TO.scall hP q0D (ea) ?_ rfl rfl rfl rfl ?_; (focus (simp; done)); refine TO.runsG hP (by simp [hg0, hg1, hn, hx, hav] <;> rfl) ?_; dsimp only [goK]) | (refine TO.scall hP q0D (eb) ?_ rfl rfl rfl rfl ?_; (focus (simp; done)); refine TO.runsG hP (by simp [hg1, hn] <;> rfl) ?_; dsimp only [goK]) | (refine TO.scall hP I_shape_many (e1') ?_ rfl rfl rfl rfl ?_; (focus (simp; done)); refine TO.runsG hP (by simp <;> rfl) ?_; dsimp only [goK]) | simp only [q0a] | (refine TW.cond hP rfl (fun hc => ?_) (fun hc => ?_) <;> simp at hc) | (refine TW.ret ⟨.inr rfl, _, _, rfl, rfl, ?_⟩; dsimp only [q0h])
          all_goals clear e1 e1' ea eb hw1
          all_goals simp only [decide_eq_true_eq, decide_eq_false_iff_not] at *
          all_goals first | (refine ⟨(), rfl, ?_, hg0, hg1, hnx, ?_⟩ <;> first | (focus ((repeat' first | exact q0c | refine q0b (by simp) ?_); done)) | (focus (simp_all [q2G]; omega))) | (focus (simp_all [q0I, q2G]; done))
        | false =>
          rw [hb16] at eb
          simp [q1V] at hb16
          repeat' first | refine TW.seq ?_ | refine TW.condT hP rfl ?_ | (refine TW.regG hP (by simp [hg0, hg1, hn, hav] <;> rfl) ?_; dsimp only [goK]) | (refine q0E (fun hb => ?_) (fun hb => ?_) <;> (try simp only [Bool.not_eq_eq_eq_not, Bool.not_true, Bool.not_false] at hb) <;> (refine q2c (by simp [hb, hg1, hn, hw1] <;> rfl) ?_; dsimp only [goK])) | (refine TO.scall hP q0D (ea) ?_ rfl rfl rfl rfl ?_; (focus (simp; done)); refine TO.runsG hP (by simp [hg0, hg1, hn, hx, hav] <;> rfl) ?_; dsimp only [goK]) | (refine TO.scall hP q0D (eb) ?_ rfl rfl rfl rfl ?_; (focus (simp; done)); refine TO.runsG hP (by simp <;> rfl) ?_; dsimp only [goK]) | simp only [q0a] | (refine TW.ret ⟨.inr rfl, _, _, rfl, rfl, ?_⟩; dsimp only [q0h])
          all_goals clear e1 e1' ea eb
          all_goals (rw [AV.bool.injEq, eq_comm, q0I, Bool.and_eq_false_iff]; left; rw [Bool.not_eq_false']; simp [q2G]; omega)
      · have hnl : (p.types.list.length : Int) ≤ f.sig := by omega
        have ha : q1V f.sig p.types.list.length = false := by simp [q1V]; omega
        rw [ha] at ea
        have h01 : ¬ f.sig < 0 := by omega
        repeat' first | refine TW.seq ?_ | refine TW.condT hP rfl ?_ | (refine TW.regG hP (by simp [hg0, hg1] <;> rfl) ?_; dsimp only [goK]) | (refine TO.scall hP q0D (ea) ?_ rfl rfl rfl rfl ?_; (focus (simp; done)); refine TO.runsG hP (by simp <;> rfl) ?_; dsimp only [goK]) | simp only [q0a] | (refine TW.ret ⟨.inr rfl, _, _, rfl, rfl, ?_⟩; dsimp only [q0h])
        all_goals simp [q0I, q2G, hnl]
    · have h01 : f.sig < 0 := by omega
      have ha : q1V f.sig p.types.list.length = false := by simp [q1V]; omega
      rw [ha] at ea
      repeat' first | refine TW.seq ?_ | refine TW.condT hP rfl ?_ | (refine TW.regG hP (by simp [hg0, hg1] <;> rfl) ?_; dsimp only [goK]) | (refine TO.scall hP q0D (ea) ?_ rfl rfl rfl rfl ?_; (focus (simp; done)); refine TO.runsG hP (by simp <;> rfl) ?_; dsimp only [goK]) | simp only [q0a] | (refine TW.ret ⟨.inr rfl, _, _, rfl, rfl, ?_⟩; dsimp only [q0h])
      all_goals simp [q0I, q2G, h01]
  rintro _ g ⟨hg0, hg1, hnx, hA⟩
  dsimp only [q0R, q0k] at hg0 hg1
  have hA' := hA
  simp only [q2G, Bool.or_eq_false_iff, decide_eq_false_iff_not, Bool.not_eq_false', decide_eq_true_eq] at hA'
  obtain ⟨a1, a2, a3, a4, a5, a6⟩ := hA'
  have hpos := q0J f.blocks.list
  have hsp : 0 ≤ q0i p f ∧ q0i p f < 900000 := by
    unfold q0i
    cases hx : p.types.list[f.sig.toNat]? with
    | none => simp
    | some x => have := hp x (List.mem_of_getElem? hx); simp; omega
  obtain ⟨n, hn⟩ := Int.eq_ofNat_of_zero_le (show 0 ≤ f.sig by omega)
  have h1 : n < p.types.list.length := by omega
  obtain ⟨x, hx⟩ := q0g h1
  have hav := q0z (e := LType.cells) (show 0 < p.types.list.length by omega)
  have hr : q0i p f = x.parts.list.length := by simp [q0i, hn, hx]
  have hreg : q0w p f = x.parts.list.length + q0q f.blocks.list := by rw [q0w, hr]
  have hwm := w64e (n := q0q f.blocks.list) (by omega) (by omega)
  have hw := w64e (n := (x.parts.list.length : Int) + q0q f.blocks.list) (by omega) (by omega)
  have hav2 := q0z (e := LBlock.cells) (show 0 < f.blocks.list.length by omega)
  let z : LSizes := ⟨p.types.list.length, p.funcs.list.length, q0w p f, f.blocks.list.length⟩
  refine TW.join (fun _ : Unit => [(3, .ptr 1 0), (5, .ptr 2 0)]) (fun _ g => g.get 1 = some (.cells q0R f.cells) ∧ g.get 2 = some (.cells q2Z z.cells) ∧ g.nx = 3) ?_ ?_
  · have hfa := av_both (e := LFunc.cells) p.funcs
    have hpa := av_both (e := cI) x.parts
    rcases hfa with ⟨hfa, hfl⟩ | hfa <;> rcases hpa with ⟨hpa, hpl⟩ | hpa
    · try refine TW.seq ?_
      refine TW.drawH hP [(q1c, [.agg f.cells], .int .i64 (q0q f.blocks.list))] (fun e he => by rcases List.mem_cons.1 he with rfl | he; exact e1; cases he) [0, 1, 3, 0, 8, 24, 0, 64, 0, 256, 960, 1984, 4032, 8128, 0, 16384, 65472, 0, 131072, 393216, 1048575, 0, 4194303] (by kernel_rfl) (by kernel_rfl) (by simp [hX, hg0, hg1, hn, hx, hav, hav2, hfa, hpa, (show ¬ g.nx ≤ 0 by omega), (show ¬ g.nx ≤ 1 by omega), q1c, q2O, q2P, oneD, fpAt, fpOf, q0v, ldOf, q0T, q0m, FP.clash, FP.hard, FP.soft, overlap, inR, q0A, q1T, Nat.testBit] <;> rfl) ?_
      repeat' (refine q1A (fun hb => ?_) (fun hb => ?_) <;> (try simp only [Bool.not_eq_eq_eq_not, Bool.not_true, Bool.not_false] at hb) <;> refine q4H (by simp [hb, hX, hg0, hg1, hn, decide_eq_true h1, hx, hav, hav2, hfa, hpa, hw, (show ¬ g.nx ≤ 0 by omega), (show ¬ g.nx ≤ 1 by omega), q1c, q2O, q2P, oneD, fpAt, fpOf, q0v, ldOf, q0T, q0m, FP.clash, FP.hard, FP.soft, overlap, inR, q0A, q1T, Nat.testBit, show ¬ g.nx + 1 ≤ g.nx by omega, show ¬ g.nx + 2 ≤ g.nx by omega, show ¬ g.nx + 2 ≤ g.nx + 1 by omega, show ¬ g.nx + 3 ≤ g.nx by omega, show ¬ g.nx + 3 ≤ g.nx + 1 by omega, show ¬ g.nx + 3 ≤ g.nx + 2 by omega] <;> rfl) ?_)
      all_goals dsimp only [okD, q0a]
      refine ⟨(), rfl, ?_, ?_, ?_, ?_⟩
      · repeat' first | exact q0c | refine q0b (by simp [hnx]) ?_
      · simp [hnx]; exact hg1
      · simp [hnx, z, hreg, hfl, hpl, hwm]
      · simp [hnx]
    · try refine TW.seq ?_
      refine TW.drawH hP [(q1c, [.agg f.cells], .int .i64 (q0q f.blocks.list))] (fun e he => by rcases List.mem_cons.1 he with rfl | he; exact e1; cases he) [0, 1, 3, 0, 8, 24, 0, 64, 0, 256, 960, 1984, 4032, 8128, 0, 16384, 65472, 0, 131072, 393216, 1048575, 0, 4194303] (by kernel_rfl) (by kernel_rfl) (by simp [hX, hg0, hg1, hn, hx, hav, hav2, hfa, hpa, hw, (show ¬ g.nx ≤ 0 by omega), (show ¬ g.nx ≤ 1 by omega), q1c, q2O, q2P, oneD, fpAt, fpOf, q0v, ldOf, q0T, q0m, FP.clash, FP.hard, FP.soft, overlap, inR, q0A, q1T, Nat.testBit] <;> rfl) ?_
      repeat' (refine q1A (fun hb => ?_) (fun hb => ?_) <;> (try simp only [Bool.not_eq_eq_eq_not, Bool.not_true, Bool.not_false] at hb) <;> refine q4H (by simp [hb, hX, hg0, hg1, hn, decide_eq_true h1, hx, hav, hav2, hfa, hpa, hw, (show ¬ g.nx ≤ 0 by omega), (show ¬ g.nx ≤ 1 by omega), q1c, q2O, q2P, oneD, fpAt, fpOf, q0v, ldOf, q0T, q0m, FP.clash, FP.hard, FP.soft, overlap, inR, q0A, q1T, Nat.testBit, show ¬ g.nx + 1 ≤ g.nx by omega, show ¬ g.nx + 2 ≤ g.nx by omega, show ¬ g.nx + 2 ≤ g.nx + 1 by omega, show ¬ g.nx + 3 ≤ g.nx by omega, show ¬ g.nx + 3 ≤ g.nx + 1 by omega, show ¬ g.nx + 3 ≤ g.nx + 2 by omega] <;> rfl) ?_)
      all_goals dsimp only [okD, q0a]
      refine ⟨(), rfl, ?_, ?_, ?_, ?_⟩
      · repeat' first | exact q0c | refine q0b (by simp [hnx]) ?_
      · simp [hnx]; exact hg1
      · simp [hnx, z, hreg, hfl]
      · simp [hnx]
    · try refine TW.seq ?_
      refine TW.drawH hP [(q1c, [.agg f.cells], .int .i64 (q0q f.blocks.list))] (fun e he => by rcases List.mem_cons.1 he with rfl | he; exact e1; cases he) [0, 1, 3, 0, 8, 24, 0, 64, 0, 256, 960, 1984, 4032, 8128, 0, 16384, 65472, 0, 131072, 393216, 1048575, 0, 4194303] (by kernel_rfl) (by kernel_rfl) (by simp [hX, hg0, hg1, hn, hx, hav, hav2, hfa, hpa, (show ¬ g.nx ≤ 0 by omega), (show ¬ g.nx ≤ 1 by omega), q1c, q2O, q2P, oneD, fpAt, fpOf, q0v, ldOf, q0T, q0m, FP.clash, FP.hard, FP.soft, overlap, inR, q0A, q1T, Nat.testBit] <;> rfl) ?_
      repeat' (refine q1A (fun hb => ?_) (fun hb => ?_) <;> (try simp only [Bool.not_eq_eq_eq_not, Bool.not_true, Bool.not_false] at hb) <;> refine q4H (by simp [hb, hX, hg0, hg1, hn, decide_eq_true h1, hx, hav, hav2, hfa, hpa, hw, (show ¬ g.nx ≤ 0 by omega), (show ¬ g.nx ≤ 1 by omega), q1c, q2O, q2P, oneD, fpAt, fpOf, q0v, ldOf, q0T, q0m, FP.clash, FP.hard, FP.soft, overlap, inR, q0A, q1T, Nat.testBit, show ¬ g.nx + 1 ≤ g.nx by omega, show ¬ g.nx + 2 ≤ g.nx by omega, show ¬ g.nx + 2 ≤ g.nx + 1 by omega, show ¬ g.nx + 3 ≤ g.nx by omega, show ¬ g.nx + 3 ≤ g.nx + 1 by omega, show ¬ g.nx + 3 ≤ g.nx + 2 by omega] <;> rfl) ?_)
      all_goals dsimp only [okD, q0a]
      refine ⟨(), rfl, ?_, ?_, ?_, ?_⟩
      · repeat' first | exact q0c | refine q0b (by simp [hnx]) ?_
      · simp [hnx]; exact hg1
      · simp [hnx, z, hreg, hpl, hwm]
      · simp [hnx]
    · try refine TW.seq ?_
      refine TW.drawH hP [(q1c, [.agg f.cells], .int .i64 (q0q f.blocks.list))] (fun e he => by rcases List.mem_cons.1 he with rfl | he; exact e1; cases he) [0, 1, 3, 0, 8, 24, 0, 64, 0, 256, 960, 1984, 4032, 8128, 0, 16384, 65472, 0, 131072, 393216, 1048575, 0, 4194303] (by kernel_rfl) (by kernel_rfl) (by simp [hX, hg0, hg1, hn, hx, hav, hav2, hfa, hpa, hw, (show ¬ g.nx ≤ 0 by omega), (show ¬ g.nx ≤ 1 by omega), q1c, q2O, q2P, oneD, fpAt, fpOf, q0v, ldOf, q0T, q0m, FP.clash, FP.hard, FP.soft, overlap, inR, q0A, q1T, Nat.testBit] <;> rfl) ?_
      repeat' (refine q1A (fun hb => ?_) (fun hb => ?_) <;> (try simp only [Bool.not_eq_eq_eq_not, Bool.not_true, Bool.not_false] at hb) <;> refine q4H (by simp [hb, hX, hg0, hg1, hn, decide_eq_true h1, hx, hav, hav2, hfa, hpa, hw, (show ¬ g.nx ≤ 0 by omega), (show ¬ g.nx ≤ 1 by omega), q1c, q2O, q2P, oneD, fpAt, fpOf, q0v, ldOf, q0T, q0m, FP.clash, FP.hard, FP.soft, overlap, inR, q0A, q1T, Nat.testBit, show ¬ g.nx + 1 ≤ g.nx by omega, show ¬ g.nx + 2 ≤ g.nx by omega, show ¬ g.nx + 2 ≤ g.nx + 1 by omega, show ¬ g.nx + 3 ≤ g.nx by omega, show ¬ g.nx + 3 ≤ g.nx + 1 by omega, show ¬ g.nx + 3 ≤ g.nx + 2 by omega] <;> rfl) ?_)
      all_goals dsimp only [okD, q0a]
      refine ⟨(), rfl, ?_, ?_, ?_, ?_⟩
      · repeat' first | exact q0c | refine q0b (by simp [hnx]) ?_
      · simp [hnx]; exact hg1
      · simp [hnx, z, hreg]
      · simp [hnx]
  rintro _ g ⟨hg1, hg2, hnx⟩
  dsimp only [q0R, q2Z] at hg1 hg2
  refine TW.seq (TW.regG hP (by simp <;> rfl) ?_)
  dsimp only [goK, q0a, q0f, q0d]
  rw [hnx]
  refine TW.gen (fun h => h.get 1 = some (.cells q0R f.cells) ∧ h.get 2 = some (.cells q2Z z.cells) ∧ h.get 3 = some (.cells 126 [.fn (.func q1B) [] [.ptr 2 0]]) ∧ h.nx = 4) ⟨by simp [hnx]; exact hg1, by simp [hnx]; exact hg2, by simp, by simp [hnx]⟩ fun h hh => ?_
  obtain ⟨k1, k2, k3, kn⟩ := hh
  dsimp only [q0R] at k1
  have hil : ∀ b ∈ f.blocks.list, b.ins.list.length < 1000000 := fun b hb => by
    obtain ⟨i, hi⟩ := List.mem_iff_getElem?.1 hb
    have q1 := q2X hi
    have q2 := q3h f.blocks.list (i + 1)
    have q3 := q0J (f.blocks.list.take i)
    omega
  have e2 := z0Z hP f.blocks q3j [.ptr 3 0, .ptr 2 0] (fun b => !(b.ins.list.all (fun x => q2a z.types z.funcs x z.regs z.blocks) && q3J b.ed z.regs z.blocks)) I_shape_function_2 h (by omega) (fun b hb h' hw' => fn2_qt hV b z h' 2 3 (hw'.at k2 (by omega)) (by have := hw'.nx; omega) 126 (hw'.at k3 (by omega)) (by have := hw'.nx; omega) (hil b hb) (fun x hx => ⟨ho.op b hb x hx, hs.args b hb x hx, hs.frm b hb x hx⟩))
  refine TW.seq (TW.regG hP (by simp [k1] <;> rfl) ?_)
  dsimp only [goK, q0a, q0f, q0d]
  refine TO.qcall hP q3e e2 (by simp) rfl rfl rfl rfl fun k hk => ?_
  refine TO.runsG hP (by simp <;> rfl) ?_
  try dsimp only [goK]
  repeat' first | simp only [q0a] | (refine TW.ret ⟨.inr rfl, _, _, rfl, rfl, ?_⟩; dsimp only [q0h])
  have hall : f.blocks.list.any (fun b => !b.ins.list.all (fun x => q2a z.types z.funcs x z.regs z.blocks) || !q3J b.ed z.regs z.blocks) = !f.blocks.list.all (q2h p f) := by
    rw [List.not_all_eq_any_not]
    congr 1
    funext b
    simp [q2h, z]
  rw [hall, q0I, hA]
  simp
end Go.Ax
set_option maxRecDepth 20000
noncomputable section
namespace Go.Ax
open Go.Proofs
def szs (t : List LType) (k : Nat) : List Int := (List.range k).map (fun j => ((ofS t j).length : Int))
theorem szs_get {t : List LType} {k j : Nat} (h : j < k) : (szs t k).getD j 0 = (ofS t j).length := by
 simp [szs, List.getD_eq_getElem?_getD, h]
theorem szs_len {t : List LType} {k : Nat} : (szs t k).length = k := by simp [szs]
theorem szs_succ {t : List LType} {k : Nat} : szs t (k + 1) = szs t k ++ [((ofS t k).length : Int)] := by simp [szs, List.range_succ]
theorem mayT3_type {t : List LType} {k : Nat} (h : q3T t k = true) : q1z t k = true := by
 simp only [q3T, Bool.and_eq_true] at h; exact h.1
theorem ofS_of {t : List LType} {k : Nat} {x : LType} (hx : t[k]? = some x) : ofS t k = if x.kind = 4 then x.parts.list.flatMap (fun p => ofN t k p.toNat) else if x.kind = 5 then (List.replicate x.many.toNat (ofN t k x.elem.toNat)).flatten else [(k : Int)] := ofN_succ hx
theorem ofN_S {t : List LType} {k j : Nat} (hall : ∀ j < k, q3T t j = true) (h : j < k) : ofN t k j = ofS t j :=
 ofN_eq (fun i hi => mayT3_type (hall i (by omega))) h (Nat.lt_succ_self _)
theorem sum_parts {t : List LType} {k : Nat} (hall : ∀ j < k, q3T t j = true) : ∀ (l : List Int), q2s l k = true →
    sumN (l.map fun n => (szs t k).getD n.toNat 0) = ((l.flatMap (fun p => ofN t k p.toNat)).length : Int)
  | [], _ => rfl
  | a :: l, h => by
    simp only [q2s, List.all_cons, Bool.and_eq_true, decide_eq_true_eq] at h
    have h2 := sum_parts hall l h.2
    have ha : a.toNat < k := by omega
    simp only [List.map_cons, sumN, List.flatMap_cons, List.length_append, Int.natCast_add]
    rw [h2, szs_get ha, ofN_S hall ha]
theorem len_rep {α : Type} (n : Nat) (l : List α) : (List.replicate n l).flatten.length = n * l.length := by
 simp [List.length_flatten]
theorem plain3_eq {t : List LType} {n : Int} : q5y t n = (decide (0 ≤ n) && decide (n < t.length) && scAt t n) := by
 rw [Bool.eq_iff_iff]
 by_cases h : 0 ≤ n ∧ n < t.length
 ·obtain ⟨x, hx⟩ := q0g (show n.toNat < t.length by omega)
  simp only [q5y, kindAt, scAt, hx, scalarS, Bool.and_eq_true, Bool.or_eq_true, decide_eq_true_eq]
  omega
 ·simp only [q5y, Bool.and_eq_true, decide_eq_true_eq]
  constructor
  ·rintro ⟨h1, h2, h3⟩; exact absurd ⟨h1, h2⟩ h
  ·rintro ⟨⟨h1, h2⟩, h3⟩; exact absurd ⟨h1, h2⟩ h
theorem mayFn3_eq {t : List LType} {x : LType} : q8K t x = (decide (x.many = 0) && (decide (x.parts.list.length ≤ 4) && (q1U t.length (x.elem :: x.parts.list) && (x.elem :: x.parts.list).all (scAt t)))) := by
 have h1 : x.parts.list.all (q5y t) = (q1U t.length x.parts.list && x.parts.list.all (scAt t)) := by
  rw [Bool.eq_iff_iff]
  simp only [q1U, List.all_eq_true, plain3_eq, Bool.and_eq_true]
  exact ⟨fun h => ⟨fun y hy => (h y hy).1, fun y hy => (h y hy).2⟩, fun h y hy => ⟨h.1 y hy, h.2 y hy⟩⟩
 rw [Bool.eq_iff_iff]
 simp only [q8K, h1, plain3_eq, q1U, List.all_cons, Bool.and_eq_true, decide_eq_true_eq]
 constructor
 ·rintro ⟨⟨a1, a2⟩, ⟨⟨b1, b2⟩, b3⟩, c1, c2⟩; exact ⟨c2, by omega, ⟨⟨b1, b2⟩, a1⟩, b3, a2⟩
 ·rintro ⟨c2, c1, ⟨⟨b1, b2⟩, a1⟩, b3, a2⟩; exact ⟨⟨a1, a2⟩, ⟨⟨b1, b2⟩, b3⟩, by omega, c2⟩
theorem mayS_eq {t : List LType} {k : Nat} {x : LType} (hx : t[k]? = some x) (hall : ∀ j < k, q3T t j = true) : (mayS t k (szs t k)).2 = q3T t k ∧ (q3T t k = true → (mayS t k (szs t k)).1 = (ofS t k).length) := by
 have ho := ofS_of hx
 by_cases h1 : x.kind = 1
 ·have hl : (ofS t k).length = 1 := by rw [ho]; simp [h1]
  simp [mayS, q3T, q1z, hx, h1, hl, q2E]
 by_cases h2 : x.kind = 2
 ·have hl : (ofS t k).length = 1 := by rw [ho]; simp [h2]
  simp [mayS, q3T, q1z, hx, h2, hl, q2E, q1U]
  rw [Bool.eq_iff_iff]; simp
  constructor
  ·rintro ⟨⟨a1, a2⟩, a3, a4⟩; exact ⟨a3, a4, a1, a2⟩
  ·rintro ⟨a3, a4, a1, a2⟩; exact ⟨⟨a1, a2⟩, a3, a4⟩
 by_cases h3 : x.kind = 3
 ·have hl : (ofS t k).length = 1 := by rw [ho]; simp [h3]
  simp only [mayS, q3T, q1z, hx, h3, hl, q2E, mayFn3_eq]
  simp
 by_cases h4 : x.kind = 4
 ·have ho' : ofS t k = x.parts.list.flatMap (fun p => ofN t k p.toNat) := by rw [ho, if_pos h4]
  by_cases hl : q2s x.parts.list k = true
  ·have hs := sum_parts hall x.parts.list hl
   rw [← ho'] at hs
   have ht : q1U k x.parts.list = true := hl
   simp only [mayS, q3T, q1z, hx, h4, q2E, hs, hl, ht]
   by_cases he : x.elem = 0 <;> by_cases hm : x.many = 0 <;> simp [he, hm]
   rw [Bool.eq_iff_iff]; simp; omega
  ·have ht : q1U k x.parts.list = false := Bool.eq_false_iff.2 hl
   have hl' : q2s x.parts.list k = false := by simpa using hl
   simp [mayS, q3T, q1z, hx, h4, q2E, hl', ht]
 by_cases h5 : x.kind = 5
 ·have ho' : ofS t k = (List.replicate x.many.toNat (ofN t k x.elem.toNat)).flatten := by rw [ho, if_neg h4, if_pos h5]
  by_cases hl : (0 ≤ x.elem ∧ x.elem < k) ∧ 1 ≤ x.many ∧ x.many ≤ 16
  ·have he : x.elem.toNat < k := by omega
   have hlen : ((ofS t k).length : Int) = x.many * (ofS t x.elem.toNat).length := by
    rw [ho', len_rep, ofN_S hall he, Int.natCast_mul, Int.toNat_of_nonneg (by omega)]
   simp only [mayS, q3T, q1z, hx, h5, q2E, szs_get he, q1U]
   rw [← hlen]
   simp [hl.1.1, hl.1.2, hl.2.1, hl.2.2]
   by_cases hp : x.parts.list = [] <;> simp [hp]
   omega
  ·have q : q3T t k = false := by
    simp only [q3T, q1z, hx, h5]
    simp
    intros; omega
   rw [q]
   have c : (q1U k [x.elem] && (decide (1 ≤ x.many) && decide (x.many ≤ 16))) = false := by
    rw [Bool.eq_false_iff]
    intro h
    simp [q1U] at h
    exact hl ⟨h.1, h.2⟩
   simp only [mayS, hx, h5, c]
   simp
 ·simp [mayS, q3T, q1z, hx, h1, h2, h3, h4, h5]
theorem typesGo_none {t : List LType} : ∀ (n k : Nat), k + n = t.length → (∀ j < k, q3T t j = true) → ((q5L t n (szs t k)).isSome = (List.range t.length).all (q3T t))
  | 0, k, hk, hall => by
    simp only [q5L, Option.isSome_some]
    rw [eq_comm, List.all_eq_true]
    intro j hj
    exact hall j (by have := List.mem_range.1 hj; omega)
  | n + 1, k, hk, hall => by
    obtain ⟨x, hx⟩ := q0g (show k < t.length by omega)
    obtain ⟨e1, e2⟩ := mayS_eq hx hall
    simp only [q5L, szs_len, e1]
    cases hm : q3T t k with
    | true =>
      rw [if_pos rfl, e2 hm, ← szs_succ]
      refine typesGo_none n (k + 1) (by omega) fun j hj => ?_
      by_cases h : j = k
      · rw [h]; exact hm
      · exact hall j (by omega)
    | false =>
      rw [if_neg (by simp)]
      simp only [Option.isSome_none]
      rw [eq_comm, List.all_eq_false]
      exact ⟨k, List.mem_range.2 (by omega), by simp [hm]⟩
theorem typesE_eq (t : List LType) : typesE t = q5U t := by
 unfold typesE q5U
 by_cases h : 16 < t.length
 ·rw [if_pos h, if_pos h]
 ·rw [if_neg h, if_neg h]
  have h2 := typesGo_none (t := t) t.length 0 (by omega) (fun j hj => absurd hj (Nat.not_lt_zero _))
  have h3 : szs t 0 = [] := rfl
  rw [h3] at h2
  cases hg : q5L t t.length [] with
  | none => rw [hg] at h2; rw [if_neg (by rw [← h2]; simp)]
  | some v => rw [hg] at h2; rw [if_pos (by rw [← h2]; rfl)]
end Go.Ax
set_option maxRecDepth 20000
noncomputable section
namespace Go.Ax
open Go.Proofs
attribute [local irreducible] TW TO CallsT q0y
variable {F : Nat → Option Obj} {gl : Nat → AV} {K : Knob} {S S' : Nat → Prop}
theorem chk1_qt (hV : Env F gl K) (p : LProg) (f : LFunc) (hs : SmallF f) (ho : OpsOk f) (hp : ∀ x ∈ p.types.list, x.parts.list.length < 900000) (h : Hp) (r : Nat) (hr : h.get r = some (.cells q0k p.cells)) (hrn : r < h.nx) :
  Qt Tryz.prog F h (.bool (!q0I p f)) q4T [.agg f.cells, .ptr r 0] := by
 have hP := hV.P
 refine CallsT.body hP q0e E_shape_Check_1 rfl rfl ?_
 have e1 := function_pure hV p f hs ho hp
 dsimp only [q0k] at hr
 refine TW.seq (TW.regG hP (by simp <;> rfl) ?_)
 dsimp only [goK, q0a, q0f, q0d]
 refine TW.gen (fun g => g.get h.nx = some (.cells q0R f.cells) ∧ g.get r = some (.cells q0k p.cells) ∧ Wid h g) ⟨by simp, by rw [get_new, if_neg (by omega)]; exact hr, (Wid.refl h).new _⟩ fun g hg => ?_
 obtain ⟨g1, g2, hw⟩ := hg
 dsimp only [q0R, q0k] at g1 g2
 repeat' first | refine TW.seq ?_ | (refine TW.regG hP (by simp [g1, g2] <;> rfl) ?_; dsimp only [goK]) | (refine TO.scall hP I_shape_function (e1) ?_ rfl rfl rfl rfl ?_; (focus (simp; done)); refine TO.runsG hP (by simp <;> rfl) ?_; dsimp only [goK]) | simp only [q0a]
 refine TW.ret ⟨.inr rfl, g, _, rfl, rfl, ?_, hw⟩
 simp [q0h]
structure OpsP (p : LProg) : Prop where
 op : ∀ f ∈ p.funcs.list, OpsOk f
theorem shape_Check_pure (hV : Env F gl K) (p : LProg) (hs : SmallP p) (ho : OpsP p) : q0y Tryz.prog F q8h [.agg p.cells] (.int .i64 (q3U p)) := by
  have hP := hV.P
  have hnf := hs.nf
  have hnt := hs.nt
  have e1 := types_Check_pure hP p.types hs.parts (by omega)
  rw [typesE_eq] at e1
  have eb := q1N hP (p.funcs.list.length - 1) 8
  have hw1 := w64e (n := (p.funcs.list.length : Int) - 1) (by omega) (by omega)
  refine CallsT.pure (O := fun u _ => u = .int .i64 (q3U p)) (k := 1) (by simp) ?_ (fun u g e => by subst e; rfl)
  refine CallsT.body hP q0e E_shape_Check rfl rfl ?_
  refine TW.seq (TW.regG hP (by simp <;> rfl) ?_)
  dsimp only [goK, q0a, q0f, q0d]
  by_cases hc3 : q5U p.types.list = 0
  · rw [hc3] at e1
    refine TW.gen (fun g => g.get 0 = some (.cells q0k p.cells) ∧ g.nx = 1) ⟨by simp, by simp⟩ fun g hgg => ?_
    obtain ⟨hg0, hnx⟩ := hgg
    have hg := hg0
    dsimp only [q0k] at hg0
    cases hb : q1V (p.funcs.list.length - 1) 8 with
    | false =>
      rw [hb] at eb
      repeat' first | refine TW.seq ?_ | refine TW.skip ?_ | refine TW.condT hP rfl ?_ | refine TW.condF hP rfl ?_ | (refine TW.regG hP (by simp [hg0, hw1] <;> rfl) ?_; dsimp only [goK]) | (refine TO.scall hP q8i (e1) ?_ rfl rfl rfl rfl ?_; (focus (simp; done)); refine TO.runsG hP (by simp <;> rfl) ?_; dsimp only [goK]) | (refine TO.scall hP q0D (eb) ?_ rfl rfl rfl rfl ?_; (focus (simp; done)); refine TO.runsG hP (by simp <;> rfl) ?_; dsimp only [goK]) | simp only [q0a] | (refine TW.ret ⟨.inr rfl, _, _, rfl, rfl, ?_⟩; dsimp only [q0h])
      all_goals (simp [q1V] at hb; simp [q3U, hc3]; try omega)
    | true =>
      rw [hb] at eb
      have e2 := ContainsFunc_funcs hP p.funcs q4T [.ptr 0 0] (fun f => !q0I p f) I_shape_Check_1 g (by omega) (fun f hf h' hw' => chk1_qt hV p f (hs.funcs f hf) (ho.op f hf) hs.parts h' 0 (hw'.at hg (by omega)) (by have := hw'.nx; omega))
      have hall : p.funcs.list.any (fun f => !q0I p f) = !p.funcs.list.all (q0I p) := by rw [List.not_all_eq_any_not]
      rw [hall] at e2
      repeat' first | refine TW.seq ?_ | refine TW.skip ?_ | refine TW.condF hP rfl ?_ | (refine TW.regG hP (by simp [hg0, hw1] <;> rfl) ?_; dsimp only [goK]) | (refine TO.scall hP q8i (e1) ?_ rfl rfl rfl rfl ?_; (focus (simp; done)); refine TO.runsG hP (by simp <;> rfl) ?_; dsimp only [goK]) | (refine TO.scall hP q0D (eb) ?_ rfl rfl rfl rfl ?_; (focus (simp; done)); refine TO.runsG hP (by simp [hg0] <;> rfl) ?_; dsimp only [goK])
      simp [q1V] at hb
      cases ha : p.funcs.list.all (q0I p) with
      | true =>
        rw [ha] at e2
        refine TO.qcall hP q1K e2 (by simp) rfl rfl rfl rfl fun k hk => ?_
        refine TO.runsG hP (by simp <;> rfl) ?_
        try dsimp only [goK]
        repeat' first | refine TW.seq ?_ | refine TW.skip ?_ | refine TW.condF hP rfl ?_ | (refine TW.regG hP (by simp <;> rfl) ?_; dsimp only [goK]) | simp only [q0a] | (refine TW.ret ⟨.inr rfl, _, _, rfl, rfl, ?_⟩; dsimp only [q0h])
        simp only [q3U, hc3, ha]
        simp
        omega
      | false =>
        rw [ha] at e2
        refine TO.qcall hP q1K e2 (by simp) rfl rfl rfl rfl fun k hk => ?_
        refine TO.runsG hP (by simp <;> rfl) ?_
        try dsimp only [goK]
        repeat' first | refine TW.seq ?_ | refine TW.condT hP rfl ?_ | (refine TW.regG hP (by simp <;> rfl) ?_; dsimp only [goK]) | simp only [q0a] | (refine TW.ret ⟨.inr rfl, _, _, rfl, rfl, ?_⟩; dsimp only [q0h])
        simp only [q3U, hc3, ha]; simp
  · repeat' first | refine TW.seq ?_ | refine TW.condT hP rfl ?_ | (refine TW.regG hP (by simp [hc3] <;> rfl) ?_; dsimp only [goK]) | (refine TO.scall hP q8i (e1) ?_ rfl rfl rfl rfl ?_; (focus (simp; done)); refine TO.runsG hP (by simp <;> rfl) ?_; dsimp only [goK]) | simp only [q0a] | (refine TW.ret ⟨.inr rfl, _, _, rfl, rfl, ?_⟩; dsimp only [q0h])
    all_goals simp [q3U, hc3]
def sigAt (p : LProg) (f : Int) : Int := match p.funcs.list[f.toNat]? with | some x => q0i p x | none => 0
def askedN (p : LProg) (f : Int) : Int := if q0K p f = 0 then sigAt p f else 0
theorem shape_asked_pure (hV : Env F gl K) (p : LProg) (f : Int) (hs : SmallP p) (ho : OpsP p) : q0y Tryz.prog F q8g [.agg p.cells, .int .i64 f] (.tup [.int .i64 (askedN p f), .int .i64 (q0K p f)]) := by
  have hP := hV.P
  have hX := hV.X
  have e1 := shape_Check_pure hV p hs ho
  have eb := q1N hP f p.funcs.list.length
  refine CallsT.pure (O := fun u _ => u = .tup [.int .i64 (askedN p f), .int .i64 (q0K p f)]) (k := 2) (by simp) ?_ (fun u g e => by subst e; rfl)
  refine CallsT.body hP q0e E_shape_asked rfl rfl ?_
  by_cases hc : q3U p = 0
  · rw [hc] at e1
    cases hb : q1V f p.funcs.list.length with
    | false =>
      rw [hb] at eb
      repeat' first | refine TW.seq ?_ | refine TW.skip ?_ | refine TW.condT hP rfl ?_ | refine TW.condF hP rfl ?_ | (refine TW.regG hP (by simp <;> rfl) ?_; dsimp only [goK]) | (refine TO.scall hP q8j (e1) ?_ rfl rfl rfl rfl ?_; (focus (simp; done)); refine TO.runsG hP (by simp <;> rfl) ?_; dsimp only [goK]) | (refine TO.scall hP q0D (eb) ?_ rfl rfl rfl rfl ?_; (focus (simp; done)); refine TO.runsG hP (by simp <;> rfl) ?_; dsimp only [goK]) | simp only [q0a] | (refine TW.ret ⟨.inr rfl, _, _, rfl, rfl, ?_⟩; dsimp only [q0h])
      have hb2 : f < 0 ∨ (p.funcs.list.length : Int) ≤ f := by simp [q1V] at hb; omega
      have ha : q0K p f = 2 := by rw [q0K, if_pos ⟨hc, hb2⟩]
      rw [askedN, ha]; rfl
    | true =>
      rw [hb] at eb
      have hb2 : 0 ≤ f ∧ f < (p.funcs.list.length : Int) := by simp [q1V] at hb; omega
      have ha : q0K p f = 0 := by rw [q0K, if_neg (by omega), hc]
      obtain ⟨n, rfl⟩ := Int.eq_ofNat_of_zero_le hb2.1
      have hn : n < p.funcs.list.length := by omega
      obtain ⟨x, hx⟩ := q0g hn
      obtain ⟨c1, c2, c3, c4⟩ := q2d hc
      obtain ⟨a1, a2, a3, a4, a5, a6⟩ := q2M (c2 x (List.mem_of_getElem? hx))
      obtain ⟨m, hm⟩ := Int.eq_ofNat_of_zero_le a1
      have hml : m < p.types.list.length := by omega
      obtain ⟨y, hy⟩ := q0g hml
      have hav := q0z (e := LType.cells) (show 0 < p.types.list.length by omega)
      have hav2 := q0z (e := LFunc.cells) (show 0 < p.funcs.list.length by omega)
      refine TW.seq (TW.regG hP (by simp <;> rfl) ?_)
      dsimp only [goK, q0a, q0f, q0d]
      refine TW.gen (fun g => g.get 0 = some (.cells q0k p.cells)) (by simp) fun g hg0 => ?_
      dsimp only [q0k] at hg0
      repeat' first | refine TW.seq ?_ | refine TW.skip ?_ | refine TW.condF hP rfl ?_ | (refine TW.regG hP (by simp [hg0] <;> rfl) ?_; dsimp only [goK]) | (refine TO.scall hP q8j (e1) ?_ rfl rfl rfl rfl ?_; (focus (simp; done)); refine TO.runsG hP (by simp <;> rfl) ?_; dsimp only [goK]) | (refine TO.scall hP q0D (eb) ?_ rfl rfl rfl rfl ?_; (focus (simp; done)); refine TO.runsG hP (by simp <;> rfl) ?_; dsimp only [goK])
      try refine TW.seq ?_
      refine TW.drawG hP [] (fun e he => by cases he) (by kernel_rfl) (by simp [hg0, hx, hy, hm, hav, hav2] <;> rfl) ?_
      repeat' (refine q2V (fun hb => ?_) (fun hb => ?_) <;> (try simp only [Bool.not_eq_eq_eq_not, Bool.not_true, Bool.not_false] at hb) <;> refine q8q (by simp [hb, hX, hg0, hx, hy, hm, hav, hav2, decide_eq_true hn, decide_eq_true hml] <;> rfl) ?_)
      all_goals dsimp only [okQ, q0a]
      repeat' first | (refine TW.ret ⟨.inr rfl, _, _, rfl, rfl, ?_⟩; dsimp only [q0h])
      rw [askedN, ha]
      simp [sigAt, hx, q0i, hm, hy]
  · repeat' first | refine TW.seq ?_ | refine TW.condT hP rfl ?_ | (refine TW.regG hP (by simp [hc] <;> rfl) ?_; dsimp only [goK]) | (refine TO.scall hP q8j (e1) ?_ rfl rfl rfl rfl ?_; (focus (simp; done)); refine TO.runsG hP (by simp <;> rfl) ?_; dsimp only [goK]) | simp only [q0a] | (refine TW.ret ⟨.inr rfl, _, _, rfl, rfl, ?_⟩; dsimp only [q0h])
    have ha : q0K p f = q3U p := by rw [q0K, if_neg (by omega)]
    rw [askedN, ha, if_neg hc]
def regsAt (p : LProg) (f : Int) : Int := if q0K p f = 0 then (match p.funcs.list[f.toNat]? with | some x => q0w p x | none => 0) else 0
theorem shape_Regs_pure (hV : Env F gl K) (p : LProg) (f : Int) (hs : SmallP p) (ho : OpsP p) : q0y Tryz.prog F q9e [.agg p.cells, .int .i64 f] (.tup [.int .i64 (regsAt p f), .int .i64 (q0K p f)]) := by
 have hP := hV.P
 have e1 := shape_asked_pure hV p f hs ho
 refine CallsT.pure (O := fun u _ => u = .tup [.int .i64 (regsAt p f), .int .i64 (q0K p f)]) (k := 2) (by simp) ?_ (fun u g e => by subst e; rfl)
 refine CallsT.body hP q0e E_shape_Regs rfl rfl ?_
 by_cases hc : q0K p f = 0
 ·obtain ⟨c1, c2, c3⟩ := q4P hc
  obtain ⟨n, rfl⟩ := Int.eq_ofNat_of_zero_le c2
  have hn : n < p.funcs.list.length := by omega
  obtain ⟨x, hx⟩ := q0g hn
  have hxm := List.mem_of_getElem? hx
  have e2 := many_pure hP x (hs.funcs x hxm)
  have hav2 := q0z (e := LFunc.cells) (show 0 < p.funcs.list.length by omega)
  have hr := q6z ((q2d c1).2.1 x hxm) hs.parts
  unfold q0w at hr
  have hN : askedN p n = q0i p x := by rw [askedN, if_pos hc]; simp [sigAt, hx]
  rw [hc, hN] at e1
  have hw := w64e (n := q0i p x + q0q x.blocks.list) (by omega) (by omega)
  refine TW.seq (TW.regG hP (by simp <;> rfl) ?_)
  dsimp only [goK, q0a, q0f, q0d]
  refine TW.gen (fun g => g.get 0 = some (.cells q0k p.cells)) (by simp) fun g hg0 => ?_
  dsimp only [q0k] at hg0
  try refine TW.seq ?_
  refine TW.regG hP (by simp [hg0] <;> rfl) ?_
  dsimp only [goK]
  refine TO.scall hP I_shape_asked (e1) (by simp) rfl rfl rfl rfl ?_
  refine TO.runsG hP (by simp <;> rfl) ?_
  dsimp only [goK, q0a]
  repeat' first | refine TW.seq ?_ | refine TW.skip ?_ | refine TW.condF hP rfl ?_ | (refine TW.regG hP (by simp [hg0, hx, hav2] <;> rfl) ?_; dsimp only [goK]) | (refine TO.scall hP I_shape_many (e2) ?_ rfl rfl rfl rfl ?_; (focus (simp; done)); refine TO.runsG hP (by simp [hw] <;> rfl) ?_; dsimp only [goK]) | simp only [q0a] | (refine TW.ret ⟨.inr rfl, _, _, rfl, rfl, ?_⟩; dsimp only [q0h])
  rw [hc]
  simp [regsAt, hc, hx, q0w]
 ·repeat' first | refine TW.seq ?_ | refine TW.condT hP rfl ?_ | (refine TW.regG hP (by simp [hc] <;> rfl) ?_; dsimp only [goK]) | (refine TO.scall hP I_shape_asked (e1) ?_ rfl rfl rfl rfl ?_; (focus (simp; done)); refine TO.runsG hP (by simp <;> rfl) ?_; dsimp only [goK]) | simp only [q0a] | (refine TW.ret ⟨.inr rfl, _, _, rfl, rfl, ?_⟩; dsimp only [q0h])
  simp [regsAt, hc]
end Go.Ax
noncomputable section
namespace Go.Ax
section
variable {P : Program} {F : Nat → Option Obj} {gl : Nat → AV} {K : Knob}
inductive Ren (σ : Nat → Nat) (U : Nat → Prop) : AV → AV → Prop
 | bare {v : AV} (h : q4G v = true) : Ren σ U v v
 | sl {r o len cap es : Nat} {x x' : Bool} (h : U r) (hx : x = true → x' = true) : Ren σ U (.sl r o len cap es x) (.sl (σ r) o len cap es x')
 | ptr {r o : Nat} (h : U r) : Ren σ U (.ptr r o) (.ptr (σ r) o)
 | nil0 : Ren σ U (.isl []) .nilsl
 | sl0 {r o cap es : Nat} {x : Bool} : Ren σ U (.isl []) (.sl r o 0 cap es x)
 | agg {l1 l2 : List AV} (hl : l1.length = l2.length) (h : ∀ (i : Nat) (x y : AV), l1[i]? = some x → l2[i]? = some y → Ren σ U x y) : Ren σ U (.agg l1) (.agg l2)
 | tup {l1 l2 : List AV} (hl : l1.length = l2.length) (h : ∀ (i : Nat) (x y : AV), l1[i]? = some x → l2[i]? = some y → Ren σ U x y) : Ren σ U (.tup l1) (.tup l2)
structure RenL (σ : Nat → Nat) (U : Nat → Prop) (l1 l2 : List AV) : Prop where
 len : l1.length = l2.length
 at' : ∀ (i : Nat) (x y : AV), l1[i]? = some x → l2[i]? = some y → Ren σ U x y
theorem Ren.mono {σ τ : Nat → Nat} {U V : Nat → Prop} (h : ∀ r, U r → V r ∧ τ r = σ r) {x y : AV} (H : Ren σ U x y) : Ren τ V x y := by
 induction H with
 | bare h => exact .bare h
 | sl hU hx => rw [← (h _ hU).2]; exact .sl (h _ hU).1 hx
 | ptr hU => rw [← (h _ hU).2]; exact .ptr (h _ hU).1
 | nil0 => exact .nil0
 | sl0 => exact .sl0
 | agg hl _ ih => exact .agg hl ih
 | tup hl _ ih => exact .tup hl ih
theorem RenL.mono {σ τ : Nat → Nat} {U V : Nat → Prop} (h : ∀ r, U r → V r ∧ τ r = σ r) {x y : List AV} (H : RenL σ U x y) : RenL τ V x y := ⟨H.len, fun i a b ha hb => (H.at' i a b ha hb).mono h⟩
theorem RenL.nil {σ : Nat → Nat} {U : Nat → Prop} : RenL σ U [] [] := ⟨rfl, fun i x y h => by simp at h⟩
theorem RenL.cons {σ : Nat → Nat} {U : Nat → Prop} {x y : AV} {l k : List AV} (h : Ren σ U x y) (hl : RenL σ U l k) : RenL σ U (x :: l) (y :: k) :=
  ⟨by simp [hl.len], fun i p q hp hq => by
    cases i with
    | zero => simp at hp hq; subst hp hq; exact h
    | succ i => exact hl.at' i p q (by simpa using hp) (by simpa using hq)⟩
theorem RenL.append {σ : Nat → Nat} {U : Nat → Prop} {l k l' k' : List AV} (h : RenL σ U l k) (h' : RenL σ U l' k') : RenL σ U (l ++ l') (k ++ k') :=
  ⟨by simp [h.len, h'.len], fun i p q hp hq => by
    by_cases hi : i < l.length
    · rw [List.getElem?_append_left hi] at hp
      rw [List.getElem?_append_left (by rw [← h.len]; exact hi)] at hq
      exact h.at' i p q hp hq
    · rw [List.getElem?_append_right (by omega)] at hp
      rw [List.getElem?_append_right (by rw [← h.len]; omega), ← h.len] at hq
      exact h'.at' _ p q hp hq⟩
theorem RenL.bare {σ : Nat → Nat} {U : Nat → Prop} {l : List AV} (h : q1v l = true) : RenL σ U l l := ⟨rfl, fun i x y hx hy => by rw [hx] at hy; cases hy; exact .bare (q4N h hx)⟩
theorem RenL.agg {σ : Nat → Nat} {U : Nat → Prop} {l k : List AV} (h : RenL σ U l k) : Ren σ U (.agg l) (.agg k) := .agg h.len h.at'
theorem VRel.ren {m1 m2 : Loc} {σ : Nat → Nat} {U : Nat → Prop} (hU : ∀ r, U r → m1 r = m2 (σ r)) (hf : m1.fz = m2.fz) {x y : AV} (H : Ren σ U x y) : ∀ {cv : Value}, VRel P F m2 y cv → VRel P F m1 x cv := by
  induction H with
  | bare h =>
    intro cv hv
    exact VRel.mono (m := ⟨fun _ => none, m1.fz⟩) (m' := m1) ⟨fun r c e => (by cases e), fun _ _ e => e⟩ (hv.unref (fz := m1.fz) (fun b o e => by rw [hf]; exact e) h)
  | sl h hx0 =>
    intro cv hv
    cases hv with
    | sl hm hl hc hx hz => exact .sl ((hU _ h).trans hm) hl hc (fun e => hx (hx0 e)) hz
  | ptr h =>
    intro cv hv
    cases hv with
    | ptr hm => exact .ptr ((hU _ h).trans hm)
  | nil0 =>
    intro cv hv
    cases hv
    exact .isl0 none 0
  | sl0 =>
    intro cv hv
    cases hv with
    | sl hm hl hc hx hz => exact .isl0 _ _
  | @agg l1 l2 hl _ ih =>
    intro cv hv
    cases hv with
    | agg hl2 hc =>
      refine .agg (hl.trans hl2) fun i x y hx hy => ?_
      obtain ⟨b, hb⟩ : ∃ b, l2[i]? = some b := ⟨l2[i]'(by rw [← hl]; exact (List.getElem?_eq_some_iff.1 hx).1), List.getElem?_eq_getElem _⟩
      exact ih i x b hx hb (hc i b y hb hy)
  | @tup l1 l2 hl _ ih =>
    intro cv hv
    cases hv with
    | tup hl2 hc =>
      refine .tup (hl.trans hl2) fun i x y hx hy => ?_
      obtain ⟨b, hb⟩ : ∃ b, l2[i]? = some b := ⟨l2[i]'(by rw [← hl]; exact (List.getElem?_eq_some_iff.1 hx).1), List.getElem?_eq_getElem _⟩
      exact ih i x b hx hb (hc i b y hb hy)
def Hp.e : Hp := { nx := 0, m := .e, lo := 0 }
theorem e_get (r : Nat) : Hp.e.get r = none := Tr.get_e ..
structure Iso (h : Hp) (v1 : AV) (h1 : Hp) (v2 : AV) (h2 : Hp) (σ : Nat → Nat) (U : Nat → Prop) : Prop where
 val : Ren σ U v1 v2
 dom : ∀ r, U r → h.nx ≤ r ∧ r < h1.nx
 inj : ∀ r s, U r → U s → σ r = σ s → r = s
 obj : ∀ r, U r → ∃ e cs1 cs2, h1.get r = some (.cells e cs1) ∧ h2.get (σ r) = some (.cells e cs2) ∧ RenL σ U cs1 cs2
theorem Calling.of_iso {h h1 : Hp} {v1 : AV} {f : FuncId} {args : List AV} {O : AV → Hp → Prop} (hc : CallsT P F Hp.e O f args) (hb : q1v args = true) (hw : Wid h h1) (hwf : ∀ r, h1.nx ≤ r → h1.get r = none)
    (hI : ∀ v2 h2, O v2 h2 → ∃ σ U, Iso h v1 h1 v2 h2 σ U) : Calling P F h h1 v1 f args := by
  intro m w n cargs hR hA hF
  have hR0 : HRel P F ⟨fun _ => none, m.fz⟩ Hp.e w := ⟨fun r o b z hg hm => (by cases hm), fun r s o q b y z hg hl hg' hl' hm hm' => (by cases hm), fun r o b z hg hl hm => (by cases hm), hR.frz, fun r _ => e_get r⟩
  refine (hc ⟨fun _ => none, m.fz⟩ w n cargs hR0 (hA.unref (fun b o e => e) hb) (fun r _ => rfl)).mono fun e w' he => ?_
  obtain ⟨v2, h2, hO, hle, cv, m2, rfl, hs, hv⟩ := he
  obtain ⟨σ, U, I⟩ := hI v2 h2 hO
  have none0 : ∀ r o, Hp.e.get r = some o → False := fun r o hg => by rw [e_get] at hg; cases hg
  let m1 : Loc := ⟨fun r => @ite _ (h.nx ≤ r ∧ r < h1.nx) (Classical.propDecidable _) (@ite _ (U r) (Classical.propDecidable _) (m2 (σ r)) none) (m r), m2.fz⟩
  have inU : ∀ r, U r → m1 r = m2 (σ r) := fun r hr => by
    show @ite _ _ (Classical.propDecidable _) (@ite _ _ (Classical.propDecidable _) _ _) _ = _
    rw [if_pos (I.dom r hr), if_pos hr]
  have inR : ∀ r c, m1 r = some c → h.nx ≤ r → r < h1.nx → U r ∧ m2 (σ r) = some c := fun r c hm h1' h2' => by
    have hm : @ite _ _ (Classical.propDecidable _) (@ite _ _ (Classical.propDecidable _) _ _) _ = some c := hm
    rw [if_pos ⟨h1', h2'⟩] at hm
    split at hm
    · rename_i hu; exact ⟨hu, hm⟩
    · cases hm
  have out : ∀ r, ¬ (h.nx ≤ r ∧ r < h1.nx) → m1 r = m r := fun r hr => by
    show @ite _ _ (Classical.propDecidable _) (@ite _ _ (Classical.propDecidable _) _ _) _ = _
    rw [if_neg hr]
  have live2 : ∀ r c, U r → m2 (σ r) = some c → ∃ e cs, h2.get (σ r) = some (.cells e cs) := fun r c hr _ => by
    obtain ⟨e, cs1, cs2, _, g2, _⟩ := I.obj r hr; exact ⟨e, cs2, g2⟩
  have new2 : ∀ r b z, U r → m2 (σ r) = some (b, z) → w.heap.size ≤ b := fun r b z hr hm => by
    obtain ⟨e, cs, g⟩ := live2 r _ hr hm
    rcases hs.mnew (σ r) b z hm rfl ⟨_, g, rfl⟩ with h' | ⟨s, o, y, hg, _, _⟩
    · exact h'
    · exact (none0 _ _ hg).elim
  have part : ∀ r o b z, h1.get r = some o → m1 r = some (b, z) → (U r ∧ m2 (σ r) = some (b, z)) ∨ (r < h.nx ∧ h.get r = some o ∧ m r = some (b, z)) := fun r o b z hg hm => by
    by_cases hlt : r < h.nx
    · right
      rw [out r (by omega)] at hm
      rw [hw.get r hlt] at hg
      exact ⟨hlt, hg, hm⟩
    · left
      by_cases hlt2 : r < h1.nx
      · exact inR r _ hm (by omega) hlt2
      · rw [hwf r (by omega)] at hg; cases hg
  have hlm : Loc.le m m1 := ⟨fun r c hm => by
    by_cases hr : h.nx ≤ r ∧ r < h1.nx
    · have := hF r hr.1 hr.2; rw [this] at hm; cases hm
    · rw [out r hr]; exact hm, hs.le.frz⟩
  have same : ∀ b, b < w.heap.size → w'.heap[b]? = w.heap[b]? := fun b hb => hs.old b hb fun r o z hg => (none0 _ _ hg).elim
  have tr : ∀ {x y : AV} {cv : Value}, Ren σ U x y → VRel P F m2 y cv → VRel P F m1 x cv := fun H hv => VRel.ren inU rfl H hv
  refine ⟨cv, m1, rfl, ⟨hlm, fun r c h1' h2' => ?_, ⟨fun r o b z hg hm => ?_, fun r s o q b y z hg hl hg' hl' hm hm' => ?_, fun r o b z hg hl hm => ?_, fun b o hb => ?_, hwf⟩, hs.same, hs.size, fun b hb _ => same b hb, hw.nx, fun r o' c hg hl hm => ?_, fun r b z h1' h2' hlv => ?_, fun b o hb => ?_⟩, tr I.val hv⟩
  · by_cases hr : h.nx ≤ r ∧ r < h1.nx
    · exact hr
    · rw [out r hr, h2'] at h1'; cases h1'
  · rcases part r o b z hg hm with ⟨hu, hm2⟩ | ⟨hlt, hg0, hm0⟩
    · obtain ⟨e, cs1, cs2, g1, g2, g3⟩ := I.obj r hu
      rw [g1] at hg; cases hg
      obtain ⟨arr, a1, a2, a3, a4⟩ := hs.rel.obj (σ r) _ b z g2 hm2
      refine ⟨arr, a1, a2, by rw [g3.len]; exact a3, fun i x y hx hy => ?_⟩
      obtain ⟨u, hu'⟩ : ∃ u, cs2[i]? = some u := ⟨cs2[i]'(by rw [← g3.len]; exact (List.getElem?_eq_some_iff.1 hx).1), List.getElem?_eq_getElem _⟩
      exact tr (g3.at' i x u hx hu') (a4 i u y hu' hy)
    · by_cases hl : o.live = true
      · have := hR.obj r o b z hg0 hm0
        rw [same b (hR.lt hg0 hl hm0)]
        exact this.mono hlm
      · cases o <;> first | trivial
  · rcases part r o b y hg hm with ⟨hu, hm2⟩ | ⟨hlt, hg0, hm0⟩ <;> rcases part s q b z hg' hm' with ⟨hu', hm2'⟩ | ⟨hlt', hg0', hm0'⟩
    · obtain ⟨e, cs, g⟩ := live2 r _ hu hm2
      obtain ⟨e', cs', g'⟩ := live2 s _ hu' hm2'
      exact I.inj r s hu hu' (hs.rel.inj _ _ _ _ b y z g rfl g' rfl hm2 hm2')
    · have := new2 r b y hu hm2
      have := hR.lt hg0' hl' hm0'
      omega
    · have := new2 s b z hu' hm2'
      have := hR.lt hg0 hl hm0
      omega
    · exact hR.inj r s o q b y z hg0 hl hg0' hl' hm0 hm0'
  · rcases part r o b z hg hm with ⟨hu, hm2⟩ | ⟨hlt, hg0, hm0⟩
    · obtain ⟨e, cs, g⟩ := live2 r _ hu hm2
      exact hs.rel.out _ _ b z g rfl hm2
    · obtain ⟨q1, q2⟩ := hR.out r o b z hg0 hl hm0
      refine ⟨q1, ?_⟩
      show m2.fz b = none
      cases hf : m2.fz b with
      | none => rfl
      | some x =>
        rcases hs.fnew b x hf with h3 | h3 | ⟨s, q, y, hgs, _⟩
        · have h3 : m.fz b = some x := h3
          rw [q2] at h3; cases h3
        · have := hR.lt hg0 hl hm0; omega
        · exact (none0 _ _ hgs).elim
  · exact hs.rel.frz b o hb
  · by_cases hlt : r < h.nx
    · rw [hw.get r hlt] at hg; exact ⟨o', hg, hl⟩
    · by_cases hlt2 : r < h1.nx
      · rw [hF r (by omega) hlt2] at hm; cases hm
      · rw [hwf r (by omega)] at hg; cases hg
  · obtain ⟨o, hg, hl⟩ := hlv
    rcases part r o b z hg h1' with ⟨hu, hm2⟩ | ⟨hlt, hg0, hm0⟩
    · exact .inl (new2 r b z hu hm2)
    · rw [h2'] at hm0; cases hm0
  · rcases hs.fnew b o hb with h3 | h3 | ⟨s, q, y, hgs, _⟩
    · exact .inl h3
    · exact .inr (.inl h3)
    · exact (none0 _ _ hgs).elim
def Knob.tellP (K : Knob) (f : FuncId) (args : List AV) (h : Hp) (v : AV) (h1 : Hp) : Knob :=
 { K with orc := fun g a => open Classical in if g = f ∧ a = args then none else K.orc g a, prim := fun g a k => open Classical in if g = f ∧ a = args ∧ k = h then some (v, h1) else K.prim g a k }
theorem tellP_prim {f : FuncId} {args : List AV} {h h1 : Hp} {v : AV} : (K.tellP f args h v h1).prim f args h = some (v, h1) := by
 show (open Classical in if f = f ∧ args = args ∧ h = h then some (v, h1) else K.prim f args h) = _
 rw [if_pos ⟨rfl, rfl, rfl⟩]
theorem z1s {f : FuncId} {args : List AV} {h h1 : Hp} {v : AV} : (K.tellP f args h v h1).orc f args = none := by
 show (open Classical in if f = f ∧ args = args then none else K.orc f args) = _
 rw [if_pos ⟨rfl, rfl⟩]
theorem q4M (hP : POk P F gl K) {f : FuncId} {args : List AV} {h h1 : Hp} {v : AV} (hle : HpLe h h1) (hc : Calling P F h h1 v f args) : POk P F gl (K.tellP f args h v h1) := by
 refine ⟨⟨hP.eq.held, hP.eq.guard, hP.eq.names⟩, hP.glob, hP.names, hP.mixed, fun g a u e => ?_, hP.ext, fun g a k u k' e => ?_⟩
 ·by_cases q : g = f ∧ a = args
  ·obtain ⟨rfl, rfl⟩ := q
   rw [z1s] at e; cases e
  ·have e2 : (K.tellP f args h v h1).orc g a = K.orc g a := if_neg q
   rw [e2] at e; exact hP.orc g a u e
 ·by_cases q : g = f ∧ a = args ∧ k = h
  ·obtain ⟨rfl, rfl, rfl⟩ := q
   rw [tellP_prim] at e; cases e
   exact ⟨hle, hc⟩
  ·have e2 : (K.tellP f args h v h1).prim g a k = K.prim g a k := if_neg q
   rw [e2] at e; exact hP.prim g a k u k' e
end
end Go.Ax
noncomputable section
namespace Go.Ax
open Go.Proofs
variable {es : Nat} {X : Type}
structure Twain (h1 : Hp) (S1 : Nat → Prop) (h2 : Hp) (S2 : Nat → Prop) (σ : Nat → Nat) (U : Nat → Prop) : Prop where
 sub : ∀ r, U r → S1 r
 img : ∀ r, U r → S2 (σ r)
 inj : ∀ r s, U r → U s → σ r = σ s → r = s
 obj : ∀ r, U r → ∃ e cs1 cs2, h1.get r = some (.cells e cs1) ∧ h2.get (σ r) = some (.cells e cs2) ∧ RenL σ U cs1 cs2
def RigV (A B : AV → Asr) : Prop := ∀ v1 h1 S1 v2 h2 S2, A v1 h1 S1 → B v2 h2 S2 → ∃ σ U, Twain h1 S1 h2 S2 σ U ∧ Ren σ U v1 v2
def RigL (A B : List AV → Asr) : Prop := ∀ v1 h1 S1 v2 h2 S2, A v1 h1 S1 → B v2 h2 S2 → ∃ σ U, Twain h1 S1 h2 S2 σ U ∧ RenL σ U v1 v2
def ExV (A : AV → Asr) : Prop := ∀ h : Hp, (∀ r, h.nx ≤ r → h.get r = none) → ∃ v h' S, A v h' S ∧ Wid h h' ∧ (∀ r, h'.nx ≤ r → h'.get r = none) ∧ ∀ s, S s → h.nx ≤ s ∧ s < h'.nx
def ExL (A : List AV → Asr) : Prop := ∀ h : Hp, (∀ r, h.nx ≤ r → h.get r = none) → ∃ v h' S, A v h' S ∧ Wid h h' ∧ (∀ r, h'.nx ≤ r → h'.get r = none) ∧ ∀ s, S s → h.nx ≤ s ∧ s < h'.nx
theorem wf_new {h : Hp} {o : AObj} (hw : ∀ r, h.nx ≤ r → h.get r = none) : ∀ r, (h.new o).nx ≤ r → (h.new o).get r = none := fun r hr => by
 rw [nx_new] at hr
 rw [get_new, if_neg (by omega)]
 exact hw r (by omega)
theorem RenL.flatten {σ : Nat → Nat} {U : Nat → Prop} : ∀ {l k : List (List AV)}, l.length = k.length → (∀ (i : Nat) (x y : List AV), l[i]? = some x → k[i]? = some y → RenL σ U x y) → RenL σ U l.flatten k.flatten
  | [], [], _, _ => .nil
  | [], _ :: _, h, _ => by simp at h
  | _ :: _, [], h, _ => by simp at h
  | x :: l, y :: k, hl, h => by
    simp only [List.flatten_cons]
    exact (h 0 x y rfl rfl).append (RenL.flatten (by simpa using hl) fun i a b ha hb => h (i + 1) a b ha hb)
theorem ArrS.rig {ρ τ : X → List AV → Asr} {eT : TypeId} {xs : Sl X} (hρ : ∀ a ∈ xs.list, RigL (ρ a) (τ a)) : RigV (fun v => ArrS ρ es eT false v xs) (fun v h S => ∃ x, ArrS τ es eT x v xs h S) := by
  intro v1 h1 S1 v2 h2 S2 H1 ⟨x, H2⟩
  cases xs with
  | nil => cases H1; cases H2; exact ⟨id, fun _ => False, ⟨fun _ h => h.elim, fun _ h => h.elim, fun _ _ h => h.elim, fun _ h => h.elim⟩, .bare rfl⟩
  | mk l =>
    obtain ⟨r1, rows1, T1, rfl, a2, a3, a4, a5, a6, a7, a8⟩ := H1
    obtain ⟨r2, rows2, T2, rfl, b2, b3, b4, b5, b6, b7, b8⟩ := H2
    have key : ∀ i : Nat, ∃ (σ : Nat → Nat) (U : Nat → Prop), Twain h1 (T1 i) h2 (T2 i) σ U ∧ ∀ x y, rows1[i]? = some x → rows2[i]? = some y → RenL σ U x y := fun i => by
      by_cases hi : i < l.length
      · obtain ⟨a, ha⟩ := q0g hi
        obtain ⟨x, hx⟩ := q0g (l := rows1) (i := i) (by omega)
        obtain ⟨y, hy⟩ := q0g (l := rows2) (i := i) (by omega)
        obtain ⟨σ, U, hT, hR⟩ := hρ a (List.mem_of_getElem? ha) x h1 (T1 i) y h2 (T2 i) (a8 i a x ha hx) (b8 i a y ha hy)
        exact ⟨σ, U, hT, fun x' y' hx' hy' => by rw [hx] at hx'; rw [hy] at hy'; cases hx'; cases hy'; exact hR⟩
      · exact ⟨id, fun _ => False, ⟨fun _ h => h.elim, fun _ h => h.elim, fun _ _ h => h.elim, fun _ h => h.elim⟩, fun x y hx _ => by have := (List.getElem?_eq_some_iff.1 hx).1; omega⟩
    let σi := fun i => (key i).choose
    let Ui := fun i => (key i).choose_spec.choose
    have ti : ∀ i, Twain h1 (T1 i) h2 (T2 i) (σi i) (Ui i) := fun i => (key i).choose_spec.choose_spec.1
    have ri : ∀ i x y, rows1[i]? = some x → rows2[i]? = some y → RenL (σi i) (Ui i) x y := fun i => (key i).choose_spec.choose_spec.2
    let σ : Nat → Nat := fun r => @dite _ (∃ i, Ui i r) (Classical.propDecidable _) (fun h => σi h.choose r) (fun _ => r2)
    let U : Nat → Prop := fun r => r = r1 ∨ ∃ i, Ui i r
    have hσ : ∀ i r, Ui i r → σ r = σi i r := fun i r hr => by
      have he : ∃ i, Ui i r := ⟨i, hr⟩
      show @dite _ (∃ i, Ui i r) (Classical.propDecidable _) (fun h => σi h.choose r) (fun _ => r2) = _
      rw [dif_pos he]
      rw [a7 _ _ r ((ti _).sub r he.choose_spec) ((ti i).sub r hr)]
    have hn1 : ¬ ∃ i, Ui i r1 := fun ⟨i, hi⟩ => (a6 i r1 ((ti i).sub r1 hi)).2 rfl
    have hσ1 : σ r1 = r2 := by
      show @dite _ (∃ i, Ui i r1) (Classical.propDecidable _) (fun h => σi h.choose r1) (fun _ => r2) = _
      rw [dif_neg hn1]
    have up : ∀ i r, Ui i r → U r ∧ σ r = σi i r := fun i r hr => ⟨.inr ⟨i, hr⟩, hσ i r hr⟩
    refine ⟨σ, U, ⟨fun r hr => ?_, fun r hr => ?_, fun r s hr hs e => ?_, fun r hr => ?_⟩, ?_⟩
    · rcases hr with rfl | ⟨i, hi⟩
      · exact a2
      · exact (a6 i r ((ti i).sub r hi)).1
    · rcases hr with rfl | ⟨i, hi⟩
      · rw [hσ1]; exact b2
      · rw [hσ i r hi]; exact (b6 i _ ((ti i).img r hi)).1
    · rcases hr with rfl | ⟨i, hi⟩ <;> rcases hs with rfl | ⟨j, hj⟩
      · rfl
      · rw [hσ1, hσ j s hj] at e
        exact absurd e.symm (b6 j _ ((ti j).img s hj)).2
      · rw [hσ1, hσ i r hi] at e
        exact absurd e (b6 i _ ((ti i).img r hi)).2
      · rw [hσ i r hi, hσ j s hj] at e
        have h1' := (ti i).img r hi
        have h2' := (ti j).img s hj
        rw [e] at h1'
        obtain rfl := b7 _ _ _ h1' h2'
        exact (ti i).inj r s hi hj e
    · rcases hr with rfl | ⟨i, hi⟩
      · refine ⟨eT, _, _, a3, by rw [hσ1]; exact b3, .flatten (by omega) fun i x y hx hy => (ri i x y hx hy).mono (up i)⟩
      · obtain ⟨e, c1, c2, g1, g2, g3⟩ := (ti i).obj r hi
        exact ⟨e, c1, c2, g1, by rw [hσ i r hi]; exact g2, g3.mono (up i)⟩
    · have := Ren.sl (σ := σ) (U := U) (r := r1) (o := 0) (len := l.length) (cap := l.length) (es := es) (x := false) (x' := x) (.inl rfl) nofun
      rw [hσ1] at this
      exact this
theorem ArrS.ex {ρ : X → List AV → Asr} {eT : TypeId} {x : Bool} {xs : Sl X} (hl : ∀ a row, Locl (ρ a row)) (hs : ∀ a row h S, ρ a row h S → row.length = es) (hρ : ∀ a ∈ xs.list, ExL (ρ a)) : ExV (fun v => ArrS ρ es eT x v xs) := by
  intro h hw
  cases xs with
  | nil => exact ⟨.nilsl, h, fun _ => False, rfl, .refl h, hw, fun _ h => h.elim⟩
  | mk l =>
    have key : ∀ k, k ≤ l.length → ∃ (rows : List (List AV)) (h' : Hp) (Ss : Nat → Nat → Prop), rows.length = k ∧ q3l es rows ∧ Wid h h' ∧ (∀ r, h'.nx ≤ r → h'.get r = none) ∧ (∀ i s, Ss i s → h.nx ≤ s ∧ s < h'.nx) ∧ (∀ i j s, Ss i s → Ss j s → i = j) ∧ (∀ i s, Ss i s → i < k) ∧ ∀ i a row, l[i]? = some a → rows[i]? = some row → ρ a row h' (Ss i) := by
      intro k
      induction k with
      | zero => intro _; exact ⟨[], h, fun _ _ => False, rfl, fun c hc => (by cases hc), .refl h, hw, fun _ _ h => h.elim, fun _ _ _ h => h.elim, fun _ _ h => h.elim, fun i a row _ hr => by simp at hr⟩
      | succ k ih =>
        intro hk
        obtain ⟨rows, g, Ss, e1, e2, e3, e4, e5, e6, e6', e7⟩ := ih (by omega)
        obtain ⟨a, ha⟩ := q0g (l := l) (i := k) (by omega)
        obtain ⟨row, g', S, q1, q2, q3, q4⟩ := hρ a (List.mem_of_getElem? ha) g e4
        have hnx := e3.nx
        have hnx' := q2.nx
        refine ⟨rows ++ [row], g', fun i s => if i = k then S s else Ss i s, by simp [e1], fun c hc => ?_, e3.trans q2, q3, fun i s hs => ?_, fun i j s hi hj => ?_, fun i s hs => ?_, fun i b r2 hb hr2 => ?_⟩
        · rcases List.mem_append.1 hc with hc | hc
          · exact e2 c hc
          · rw [List.mem_singleton.1 hc]; exact hs a row g' S q1
        · dsimp only at hs
          split at hs
          · have := q4 s hs; omega
          · have := e5 i s hs; omega
        · dsimp only at hi hj
          split at hi <;> split at hj
          · omega
          · have := q4 s hi; have := e5 j s hj; omega
          · have := q4 s hj; have := e5 i s hi; omega
          · exact e6 i j s hi hj
        · dsimp only at hs
          split at hs
          · omega
          · have := e6' i s hs; omega
        · by_cases hik : i = k
          · subst hik
            rw [List.getElem?_append_right (by omega), e1] at hr2
            simp at hr2
            rw [ha] at hb
            cases hb; subst hr2
            have hq : (fun s => if i = i then S s else Ss i s) = S := funext fun s => by simp
            dsimp only
            rw [hq]; exact q1
          · have hir : i < rows.length := by
              have := (List.getElem?_eq_some_iff.1 hr2).1
              simp at this; omega
            rw [List.getElem?_append_left hir] at hr2
            have hq : (fun s => if i = k then S s else Ss i s) = Ss i := funext fun s => by simp [hik]
            dsimp only
            rw [hq]
            exact hl b r2 _ _ _ _ (e7 i b r2 hb hr2) (fun _ h => h) fun s hs => q2.get s (e5 i s hs).2
    obtain ⟨rows, g, Ss, e1, e2, e3, e4, e5, e6, e6', e7⟩ := key l.length (Nat.le_refl _)
    have hnx := e3.nx
    refine ⟨.sl g.nx 0 l.length l.length es x, g.new (.cells eT rows.flatten), fun s => h.nx ≤ s ∧ s ≤ g.nx, ⟨g.nx, rows, Ss, rfl, ⟨hnx, Nat.le_refl _⟩, by rw [get_new, if_pos rfl], e1, e2, fun i s hs => ?_, e6, fun i a row ha hr => ?_⟩, e3.new _, wf_new e4, fun s hs => by rw [nx_new]; omega⟩
    · have := e5 i s hs; exact ⟨⟨by omega, by omega⟩, by omega⟩
    · exact hl a row _ _ _ _ (e7 i a row ha hr) (fun _ h => h) fun s hs => by rw [get_new, if_neg (by have := e5 i s hs; omega)]
abbrev AnyF : Bool → Prop := fun _ => True
abbrev OffF : Bool → Prop := fun x => x = false
def Emp (fl : Bool → Prop) (v : AV) : Prop := v = .isl [] ∨ (fl true ∧ (v = .nilsl ∨ ∃ r o cap es x, v = .sl r o 0 cap es x))
theorem Emp.len {fl : Bool → Prop} {v : AV} (H : Emp fl v) : lenA v = some 0 ∧ (∀ s, v ≠ .str s) ∧ q0P v = true ∧ cellsOf v = some [v] := by
 rcases H with rfl | ⟨_, rfl | ⟨r, o, cap, es, x, rfl⟩⟩ <;> exact ⟨rfl, nofun, rfl, rfl⟩
theorem Emp.off {v : AV} (H : Emp OffF v) : v = .isl [] := by
 rcases H with h | ⟨h, _⟩
 ·exact h
 ·cases h
theorem Emp.ren {σ : Nat → Nat} {U : Nat → Prop} {v w : AV} (H : Emp OffF v) (K : Emp AnyF w) : Ren σ U v w := by
 rw [H.off]
 rcases K with rfl | ⟨_, rfl | ⟨r, o, cap, es, x, rfl⟩⟩
 ·exact .bare rfl
 ·exact .nil0
 ·exact .sl0
variable {fl : Bool → Prop}
def SlO (fl : Bool → Prop) (ρ : X → List AV → Asr) (es : Nat) (eT : TypeId) (v : AV) (l : List X) (h : Hp) (S : Nat → Prop) : Prop := (l = [] ∧ Emp fl v) ∨ ∃ x, fl x ∧ l ≠ [] ∧ ArrS ρ es eT x v (.mk l) h S
theorem SlO.locl {ρ : X → List AV → Asr} {eT : TypeId} {v : AV} {l : List X} (hρ : ∀ a row, Locl (ρ a row)) : Locl (SlO fl ρ es eT v l) := fun h g S S' H hS hg => by
 rcases H with H | ⟨x, h0, h1, h2⟩
 ·exact .inl H
 ·exact .inr ⟨x, h0, h1, ArrS.locl hρ _ _ _ _ h2 hS hg⟩
theorem SlO.len {ρ : X → List AV → Asr} {eT : TypeId} {v : AV} {l : List X} {h : Hp} {S : Nat → Prop} (H : SlO fl ρ es eT v l h S) : lenA v = some l.length ∧ (∀ s, v ≠ .str s) ∧ q0P v = true ∧ cellsOf v = some [v] := by
 rcases H with ⟨rfl, H⟩ | ⟨x, _, _, H⟩
 ·exact H.len
 ·exact H.len
theorem SlO.none {ρ : X → List AV → Asr} {eT : TypeId} {h : Hp} {S : Nat → Prop} : SlO AnyF ρ es eT .nilsl ([] : List X) h S := .inl ⟨rfl, .inr ⟨trivial, .inl rfl⟩⟩
theorem Twain.nil {h1 h2 : Hp} {S1 S2 : Nat → Prop} : Twain h1 S1 h2 S2 id fun _ => False := ⟨fun _ h => h.elim, fun _ h => h.elim, fun _ _ h => h.elim, fun _ h => h.elim⟩
theorem SlO.rig {ρ τ : X → List AV → Asr} {eT : TypeId} {l : List X} (hρ : ∀ a ∈ l, RigL (ρ a) (τ a)) : RigV (fun v => SlO OffF ρ es eT v l) (fun v => SlO AnyF τ es eT v l) := by
 intro v1 h1 S1 v2 h2 S2 H1 H2
 rcases H1 with ⟨rfl, H1⟩ | ⟨x, h0, hn, H1⟩ <;> rcases H2 with ⟨e2, H2⟩ | ⟨x', _, hn', H2⟩
 ·exact ⟨_, _, .nil, H1.ren H2⟩
 ·exact absurd rfl hn'
 ·exact absurd e2 hn
 ·have h0 : x = false := h0
  subst h0
  exact ArrS.rig (xs := .mk l) hρ v1 h1 S1 v2 h2 S2 H1 ⟨x', H2⟩
theorem SlO.ex {ρ : X → List AV → Asr} {eT : TypeId} {l : List X} (hl : ∀ a row, Locl (ρ a row)) (hs : ∀ a row h S, ρ a row h S → row.length = es) (hρ : ∀ a ∈ l, ExL (ρ a)) : ExV (fun v => SlO OffF ρ es eT v l) := by
 intro h hw
 by_cases hn : l = []
 ·exact ⟨.isl [], h, fun _ => False, .inl ⟨hn, .inl rfl⟩, .refl h, hw, fun _ h => h.elim⟩
 ·obtain ⟨v, h', S, q1, q2, q3, q4⟩ := ArrS.ex (es := es) (eT := eT) (x := false) (xs := .mk l) hl hs hρ h hw
  exact ⟨v, h', S, .inr ⟨false, rfl, hn, q1⟩, q2, q3, q4⟩
def IntO (fl : Bool → Prop) (v : AV) (l : List Int) (h : Hp) (S : Nat → Prop) : Prop := (l = [] ∧ Emp fl v) ∨ ∃ (r : Nat) (x : Bool), fl x ∧ l ≠ [] ∧ v = .sl r 0 l.length l.length 1 x ∧ S r ∧ h.get r = some (.cells q0C (l.map (.int .i64)))
theorem IntO.locl {v : AV} {s : List Int} : Locl (IntO fl v s) := fun h g S S' H hS hg => by
 rcases H with H | ⟨r, x, h0, h1, h2, h3, h4⟩
 ·exact .inl H
 ·exact .inr ⟨r, x, h0, h1, h2, hS r h3, (hg r h3).trans h4⟩
theorem IntO.len {v : AV} {l : List Int} {h : Hp} {S : Nat → Prop} (H : IntO fl v l h S) : lenA v = some l.length ∧ (∀ s, v ≠ .str s) ∧ q0P v = true ∧ cellsOf v = some [v] := by
 rcases H with ⟨rfl, H⟩ | ⟨r, x, _, _, rfl, _⟩
 ·exact H.len
 ·exact ⟨rfl, nofun, rfl, rfl⟩
theorem noRefs_ints (l : List Int) : q1v (l.map (.int .i64)) = true := by
 induction l with
 | nil => rfl
 | cons a l ih => show (q4G (.int .i64 a) && q1v (l.map (.int .i64))) = true; rw [ih]; rfl
theorem IntO.rig (s : List Int) : RigV (fun v => IntO OffF v s) (fun v => IntO AnyF v s) := by
 intro v1 h1 S1 v2 h2 S2 H1 H2
 rcases H1 with ⟨rfl, H1⟩ | ⟨r, x, h0, hn, rfl, a3, a4⟩ <;> rcases H2 with ⟨e2, H2⟩ | ⟨r', x', h0', hn', rfl, b3, b4⟩
 ·exact ⟨_, _, .nil, H1.ren H2⟩
 ·exact absurd rfl hn'
 ·exact absurd e2 hn
 ·have h0 : x = false := h0
  subst h0
  refine ⟨fun _ => r', fun s => s = r, ⟨fun s hs => by rw [hs]; exact a3, fun _ _ => b3, fun a b ha hb _ => by rw [ha, hb], fun s hs => ⟨q0C, _, _, by rw [hs]; exact a4, b4, .bare (noRefs_ints _)⟩⟩, ?_⟩
  exact .sl (σ := fun _ => r') (r := r) rfl nofun
theorem IntO.ex (s : List Int) : ExV (fun v => IntO OffF v s) := by
 intro h hw
 by_cases hn : s = []
 ·exact ⟨.isl [], h, fun _ => False, .inl ⟨hn, .inl rfl⟩, .refl h, hw, fun _ h => h.elim⟩
 ·exact ⟨_, h.new (.cells q0C (s.map (.int .i64))), fun s => s = h.nx, .inr ⟨h.nx, false, rfl, hn, rfl, rfl, by rw [get_new, if_pos rfl]⟩, (Wid.refl h).new _, wf_new hw, fun s hs => by rw [hs, nx_new]; omega⟩
def InsO (fl : Bool → Prop) (x : LIns) (row : List AV) (h : Hp) (S : Nat → Prop) : Prop := ∃ va vf Sa Sf, row = [.int .u8 x.op, .int .i64 x.type, .int .i64 x.a, .int .i64 x.b, .int .i64 x.n, va, vf] ∧ IntO fl va x.args.list h Sa ∧ IntO fl vf x.frm.list h Sf ∧ (∀ s, Sa s → S s ∧ ¬ Sf s) ∧ (∀ s, Sf s → S s)
theorem InsO.locl (x : LIns) (row : List AV) : Locl (InsO fl x row) := fun h g S S' ⟨va, vf, Sa, Sf, h1, h2, h3, h4, h5⟩ hS hg =>
 ⟨va, vf, Sa, Sf, h1, IntO.locl _ _ _ _ h2 (fun _ h => h) fun r hr => hg r (h4 r hr).1, IntO.locl _ _ _ _ h3 (fun _ h => h) fun r hr => hg r (h5 r hr), fun s hs => ⟨hS s (h4 s hs).1, (h4 s hs).2⟩, fun s hs => hS s (h5 s hs)⟩
theorem Twain.pair {h1 h2 : Hp} {S1 S2 A1 A2 B1 B2 : Nat → Prop} {σ τ : Nat → Nat} {U V : Nat → Prop} (H : Twain h1 A1 h2 A2 σ U) (K : Twain h1 B1 h2 B2 τ V) (ha1 : ∀ s, A1 s → S1 s ∧ ¬ B1 s) (hb1 : ∀ s, B1 s → S1 s) (ha2 : ∀ s, A2 s → S2 s ∧ ¬ B2 s) (hb2 : ∀ s, B2 s → S2 s) :
  ∃ ρ W, Twain h1 S1 h2 S2 ρ W ∧ (∀ r, U r → W r ∧ ρ r = σ r) ∧ (∀ r, V r → W r ∧ ρ r = τ r) := by
 let ρ : Nat → Nat := fun r => @ite _ (U r) (Classical.propDecidable _) (σ r) (τ r)
 have hU : ∀ r, U r → ρ r = σ r := fun r hr => by
  show @ite _ (U r) (Classical.propDecidable _) (σ r) (τ r) = _
  rw [if_pos hr]
 have hV : ∀ r, V r → ρ r = τ r := fun r hr => by
  show @ite _ (U r) (Classical.propDecidable _) (σ r) (τ r) = _
  rw [if_neg fun hu => (ha1 r (H.sub r hu)).2 (K.sub r hr)]
 have u1 : ∀ r, U r → (U r ∨ V r) ∧ ρ r = σ r := fun r hr => ⟨.inl hr, hU r hr⟩
 have v1 : ∀ r, V r → (U r ∨ V r) ∧ ρ r = τ r := fun r hr => ⟨.inr hr, hV r hr⟩
 refine ⟨ρ, fun r => U r ∨ V r, ⟨fun r hr => ?_, fun r hr => ?_, fun r s hr hs e => ?_, fun r hr => ?_⟩, u1, v1⟩
 ·exact hr.elim (fun h => (ha1 r (H.sub r h)).1) fun h => hb1 r (K.sub r h)
 ·rcases hr with h | h
  ·rw [hU r h]; exact (ha2 _ (H.img r h)).1
  ·rw [hV r h]; exact hb2 _ (K.img r h)
 ·rcases hr with h | h <;> rcases hs with k | k
  ·rw [hU r h, hU s k] at e; exact H.inj r s h k e
  ·rw [hU r h, hV s k] at e
   exact absurd (K.img s k) (e ▸ (ha2 _ (H.img r h)).2)
  ·rw [hV r h, hU s k] at e
   exact absurd (K.img r h) (e ▸ (ha2 _ (H.img s k)).2)
  ·rw [hV r h, hV s k] at e; exact K.inj r s h k e
 ·rcases hr with h | h
  ·obtain ⟨e, c1, c2, g1, g2, g3⟩ := H.obj r h
   exact ⟨e, c1, c2, g1, by rw [hU r h]; exact g2, g3.mono u1⟩
  ·obtain ⟨e, c1, c2, g1, g2, g3⟩ := K.obj r h
   exact ⟨e, c1, c2, g1, by rw [hV r h]; exact g2, g3.mono v1⟩
theorem InsO.rig (x : LIns) : RigL (InsO OffF x) (InsO AnyF x) := by
 rintro row1 h1 S1 row2 h2 S2 ⟨va, vf, Sa, Sf, rfl, a2, a3, a4, a5⟩ ⟨va', vf', Sa', Sf', rfl, b2, b3, b4, b5⟩
 obtain ⟨σ, U, H, hr⟩ := IntO.rig x.args.list va h1 Sa va' h2 Sa' a2 b2
 obtain ⟨τ, V, K, kr⟩ := IntO.rig x.frm.list vf h1 Sf vf' h2 Sf' a3 b3
 obtain ⟨ρ, W, T, u, v⟩ := H.pair K a4 a5 b4 b5
 exact ⟨ρ, W, T, .cons (.bare rfl) (.cons (.bare rfl) (.cons (.bare rfl) (.cons (.bare rfl) (.cons (.bare rfl) (.cons (hr.mono u) (.cons (kr.mono v) .nil))))))⟩
theorem InsO.ex (x : LIns) : ExL (InsO OffF x) := by
 intro h hw
 obtain ⟨va, h1, Sa, p1, p2, p3, p4⟩ := IntO.ex x.args.list h hw
 obtain ⟨vf, h2, Sf, q1, q2, q3, q4⟩ := IntO.ex x.frm.list h1 p3
 have := p2.nx; have := q2.nx
 exact ⟨_, h2, fun s => h.nx ≤ s ∧ s < h2.nx, ⟨va, vf, Sa, Sf, rfl, IntO.locl _ _ _ _ p1 (fun _ h => h) fun s hs => q2.get s (p4 s hs).2, q1, fun s hs => ⟨⟨(p4 s hs).1, by have := p4 s hs; omega⟩, fun hs2 => by have := p4 s hs; have := q4 s hs2; omega⟩, fun s hs => by have := q4 s hs; omega⟩, p2.trans q2, q3, fun s hs => hs⟩
theorem Emp.any {v : AV} (H : Emp OffF v) : Emp AnyF v := .inl H.off
theorem IntO.any {v : AV} {l : List Int} {h : Hp} {S : Nat → Prop} (H : IntO OffF v l h S) : IntO AnyF v l h S := by
 rcases H with ⟨e, H⟩ | ⟨r, x, _, H⟩
 ·exact .inl ⟨e, H.any⟩
 ·exact .inr ⟨r, x, trivial, H⟩
theorem InsO.any {x : LIns} {row : List AV} {h : Hp} {S : Nat → Prop} (H : InsO OffF x row h S) : InsO AnyF x row h S := by
 obtain ⟨va, vf, Sa, Sf, h1, h2, h3, h4⟩ := H
 exact ⟨va, vf, Sa, Sf, h1, h2.any, h3.any, h4⟩
theorem InsO.rigO (x : LIns) : RigL (InsO OffF x) (InsO OffF x) := fun v1 h1 S1 v2 h2 S2 H1 H2 => InsO.rig x v1 h1 S1 v2 h2 S2 H1 H2.any
def BlkO (fl : Bool → Prop) (b : LBlock) (row : List AV) (h : Hp) (S : Nat → Prop) : Prop := ∃ u, row = u :: b.ed.cells ∧ SlO fl (InsO OffF) 7 q0M u b.ins.list h S
def FunO (fl : Bool → Prop) (f : LFunc) (row : List AV) (h : Hp) (S : Nat → Prop) : Prop := ∃ u, row = [.int .i64 f.sig, u] ∧ SlO fl (BlkO fl) 5 q0s u f.blocks.list h S
theorem BlkO.locl (b : LBlock) (row : List AV) : Locl (BlkO fl b row) := fun h g S S' ⟨u, h1, h2⟩ hS hg => ⟨u, h1, SlO.locl InsO.locl _ _ _ _ h2 hS hg⟩
theorem FunO.locl (b : LFunc) (row : List AV) : Locl (FunO fl b row) := fun h g S S' ⟨u, h1, h2⟩ hS hg => ⟨u, h1, SlO.locl BlkO.locl _ _ _ _ h2 hS hg⟩
theorem noRefs_end (e : LEnd) : q1v e.cells = true := rfl
theorem InsO.len (x : LIns) (row : List AV) (h : Hp) (S : Nat → Prop) (H : InsO fl x row h S) : row.length = 7 := by obtain ⟨_, _, _, _, rfl, _⟩ := H; rfl
theorem BlkO.len (x : LBlock) (row : List AV) (h : Hp) (S : Nat → Prop) (H : BlkO fl x row h S) : row.length = 5 := by obtain ⟨_, rfl, _⟩ := H; rfl
theorem FunO.len (x : LFunc) (row : List AV) (h : Hp) (S : Nat → Prop) (H : FunO fl x row h S) : row.length = 2 := by obtain ⟨_, rfl, _⟩ := H; rfl
theorem BlkO.rig (b : LBlock) : RigL (BlkO OffF b) (BlkO AnyF b) := by
 rintro row1 h1 S1 row2 h2 S2 ⟨u, rfl, a2⟩ ⟨u', rfl, b2⟩
 obtain ⟨σ, U, H, hr⟩ := SlO.rig (es := 7) (eT := q0M) (fun a _ => InsO.rigO a) u h1 S1 u' h2 S2 a2 b2
 exact ⟨σ, U, H, .cons hr (.bare (noRefs_end _))⟩
theorem BlkO.ex (b : LBlock) : ExL (BlkO OffF b) := by
 intro h hw
 obtain ⟨u, h1, S, p1, p2, p3, p4⟩ := SlO.ex (es := 7) (eT := q0M) InsO.locl InsO.len (fun a _ => InsO.ex a) h hw
 exact ⟨_, h1, S, ⟨u, rfl, p1⟩, p2, p3, p4⟩
theorem FunO.rig (f : LFunc) : RigL (FunO OffF f) (FunO AnyF f) := by
 rintro row1 h1 S1 row2 h2 S2 ⟨u, rfl, a2⟩ ⟨u', rfl, b2⟩
 obtain ⟨σ, U, H, hr⟩ := SlO.rig (es := 5) (eT := q0s) (fun a _ => BlkO.rig a) u h1 S1 u' h2 S2 a2 b2
 exact ⟨σ, U, H, .cons (.bare rfl) (.cons hr .nil)⟩
theorem FunO.ex (f : LFunc) : ExL (FunO OffF f) := by
 intro h hw
 obtain ⟨u, h1, S, p1, p2, p3, p4⟩ := SlO.ex (es := 5) (eT := q0s) BlkO.locl BlkO.len (fun a _ => BlkO.ex a) h hw
 exact ⟨_, h1, S, ⟨u, rfl, p1⟩, p2, p3, p4⟩
def TR (enc : X → List AV) (a : X) (row : List AV) (_ : Hp) (_ : Nat → Prop) : Prop := row = enc a
theorem TR.locl {enc : X → List AV} (a : X) (row : List AV) : Locl (TR enc a row) := fun _ _ _ _ H _ _ => H
theorem TR.rig {enc : X → List AV} (hn : ∀ a, q1v (enc a) = true) (a : X) : RigL (TR enc a) (TR enc a) := by
 rintro _ h1 S1 _ h2 S2 rfl rfl
 exact ⟨_, _, .nil, .bare (hn a)⟩
theorem TR.ex {enc : X → List AV} (a : X) : ExL (TR enc a) := fun h hw => ⟨enc a, h, fun _ => False, rfl, .refl h, hw, fun _ h => h.elim⟩
def Hp.at (h : Hp) (k : Nat) : Hp := { nx := h.nx + 1, m := h.m, lo := k }
theorem q7Q {P : Program} {F : Nat → Option Obj} {A B : AV → Asr} {f : FuncId} {args : List AV} (hc : CallsT P F Hp.e (fun v g => ∃ S, B v g S) f args) (hb : q1v args = true) (hr : RigV A B) (hx : ExV A) (hl : ∀ v, Locl (A v)) (h : Hp) (hlo : h.lo = h.nx) (hw : ∀ r, h.nx ≤ r → h.get r = none) :
  ∃ v h1 S, A v h1 S ∧ Wid h h1 ∧ (∀ r, h1.nx ≤ r → h1.get r = none) ∧ (∀ s, S s → h.nx ≤ s ∧ s < h1.nx) ∧ HpLe h h1 ∧ Calling P F h h1 v f args ∧ h1.lo = h.nx ∧ h.nx < h1.nx := by
 obtain ⟨v, h1, S, q1, q2, q3, q4⟩ := hx h hw
 have hw1 : Wid h (h1.at h.nx) := ⟨Nat.le_succ_of_le q2.nx, fun r hr => q2.get r hr⟩
 have hwf : ∀ r, (h1.at h.nx).nx ≤ r → (h1.at h.nx).get r = none := fun r hr => q3 r (Nat.le_of_succ_le hr)
 refine ⟨v, h1.at h.nx, S, hl v _ _ _ _ q1 (fun _ h => h) (fun _ _ => rfl), hw1, hwf, fun s hs => ⟨(q4 s hs).1, Nat.lt_succ_of_lt (q4 s hs).2⟩, ⟨hw1.nx, Nat.le_of_eq hlo.symm, fun r h1 _ => hw1.get r h1, fun _ => hwf⟩, .of_iso hc hb hw1 hwf fun v2 h2 ⟨S2, hB⟩ => ?_, rfl, Nat.lt_succ_of_le q2.nx⟩
 obtain ⟨σ, U, T, hR⟩ := hr v h1 S v2 h2 S2 q1 hB
 exact ⟨σ, U, hR, fun r hr => ⟨(q4 r (T.sub r hr)).1, Nat.lt_succ_of_lt (q4 r (T.sub r hr)).2⟩, T.inj, T.obj⟩
theorem SlO.any {ρ τ : X → List AV → Asr} {eT : TypeId} {v : AV} {l : List X} {h : Hp} {S : Nat → Prop} (hr : ∀ a row h S, ρ a row h S → τ a row h S) (H : SlO OffF ρ es eT v l h S) : SlO AnyF τ es eT v l h S := by
 rcases H with ⟨e, H⟩ | ⟨x, _, hn, r, rows, Ss, h1, h2, h3, h4, h5, h6, h7, h8⟩
 ·exact .inl ⟨e, H.any⟩
 ·exact .inr ⟨x, trivial, hn, r, rows, Ss, h1, h2, h3, h4, h5, h6, h7, fun i a row ha hb => hr _ _ _ _ (h8 i a row ha hb)⟩
end Go.Ax
noncomputable section
namespace Go.Ax
variable {P : Program} {F : Nat → Option Obj} {gl : Nat → AV} {K : Knob} {n : Nat} {rd : Option Nat} {l : Kn} {h : Hp} {ds : List ADef} {Q : PQ} {all rest : List Oper} {m : Loc}
theorem VRel.isl0_inv {cv : Value} (h : VRel P F m (.isl []) cv) : ∃ ad cap, cv = .slice ad 0 cap := by
 cases h with
 | isl0 a cap => exact ⟨a, cap, rfl⟩
 | isl es f hF hl hes hf hc => exact ⟨_, _, rfl⟩
theorem OpT.isNil (hP : POk P F gl K) {t u ty : TypeId} {x y : Operand} {dd : Option Nat} {pos : String} {aft : Array Edge} {gd : Option (Nat × Bool)} {ti : TI} {e : TypeId} (hx : evK (Ctx.of P gl K) l x = some (.isl [])) (hy : evK (Ctx.of P gl K) l y = some .nilsl) (ht : (Ctx.of P gl K).ti t = some ti) (hd : ti.desc = .slice e) :
  OpT P F ⟨dd, .binOp .eql t x y u, ty, pos, aft, gd⟩ n rd l h ds (fun v g => g = h ∧ ∃ b, v = .bool b) := by
 refine ⟨nofun, fun s hs m a w hr htm hF => ?_⟩
 have h1 := q0x hP htm x
 rw [hs.ev hx] at h1
 have h2 := q0x hP htm y
 rw [hs.ev hy] at h2
 obtain ⟨ad, cap, h3⟩ := h1.isl0_inv
 have h4 := h2.nilsl_inv
 have hu := q1q ht
 rw [hd] at hu
 refine .inl ⟨.bool ad.isNone, h, ⟨rfl, _, rfl⟩, .refl h, .inl (.pureV hr ⟨.bool ad.isNone, ?_, .bool _⟩)⟩
 show (do eqGuard .eql t x y (a.eval x) (a.eval y); binOp .eql t (a.eval x) (a.eval y) : Sem Value).run P w = _
 rw [h3, h4, Sem.run_bind, q4Q (cx := .slice ad 0 cap) (cy := .slice none 0 0) w (by rintro ⟨h, _⟩; cases h) (by rintro ⟨_, _, h, _⟩; cases h)]
 simp only [Result.andThen]
 rw [(z1A (t := t) (cx := .slice ad 0 cap) (cy := .slice none 0 0) (by rintro ⟨_, _, _, _, h, _⟩; cases h) (by rintro ⟨_, _, h, _⟩; cases h) nofun nofun).1, Sem.run_bind]
 unfold Op.equal
 have h5 : ∀ k, 0 < k → (Op.equalIn k t (.slice ad 0 cap) (.slice none 0 0)).run P w = .ok ad.isNone w := fun k hk => by
  obtain ⟨d, rfl⟩ : ∃ d, k = d + 1 := ⟨k - 1, by omega⟩
  cases ad <;> simp [Op.equalIn, run_underlying hu]
 rw [h5 Op.maxDepth (by decide)]
 rfl
theorem TO.isNil (hP : POk P F gl K) {t u ty : TypeId} {x y : Operand} {d : Nat} {pos : String} {aft : Array Edge} {ti : TI} {e : TypeId} (hb : Nat.blt d n = true) (hx : evK (Ctx.of P gl K) l x = some (.isl [])) (hy : evK (Ctx.of P gl K) l y = some .nilsl) (ht : (Ctx.of P gl K).ti t = some ti) (hd : ti.desc = .slice e)
  (k : ∀ b, TO P F all rest n rd ((d, .bool b) :: l) h ds Q) : TO P F all (⟨some d, .binOp .eql t x y u, ty, pos, aft, none⟩ :: rest) n rd l h ds Q :=
 .step rfl rfl hb (.isNil hP hx hy ht hd) fun v h' ⟨e1, b, e2⟩ => by subst e1 e2; exact k b
theorem TO.one (hP : POk P F gl K) {o : Oper} {d : Nat} {v : AV} {h1 : Hp} (hk : knowns l o.op.operands.toList = true) (hw : q5x all l o = some true) (hd : o.dst = some d) (hb : Nat.blt d n = true) (ho : opA P (Ctx.of P gl K) nix (knSt l h) o = some (.val v h1)) (k : TO P F all rest n rd ((d, v) :: l) h1 ds Q) : TO P F all (o :: rest) n rd l h ds Q :=
 .step (O := fun u g => u = v ∧ g = h1) hw hd hb (.det hP q0e fun s hs => by
  rw [q6u (s' := knSt l h) hs.h (fun x hx => q6w hs hk x (by simpa using hx))]
  exact ho) fun v' h' ⟨e1, e2⟩ => by subst e1 e2; exact k
theorem TW.wf {c : Code} (ht : (∀ r, h.nx ≤ r → h.get r = none) → TW P F c n rd l h ds Q) : TW P F c n rd l h ds Q := fun s hs m a w fe k hr => ht hr.wf s hs m a w fe k hr
end Go.Ax
