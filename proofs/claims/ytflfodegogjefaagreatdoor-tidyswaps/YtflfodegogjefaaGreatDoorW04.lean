import Derived.Test.YtflfodegogjefaaGreatDoorW03
import Derived.Test.YtflfodegogjefaaGreatDoorProg
set_option linter.unusedSimpArgs false
set_option linter.unusedVariables false
noncomputable section
namespace Go.Ax
variable {C : Ctx} {h : Hp}
structure WidB (b : Nat) (h g : Hp) : Prop where
 nx : h.nx ≤ g.nx
 get : ∀ r, r < b → g.get r = h.get r
theorem WidB.refl (b : Nat) (h : Hp) : WidB b h h := ⟨Nat.le_refl _, fun _ _ => rfl⟩
theorem WidB.trans {b : Nat} {x y z : Hp} (h : WidB b x y) (k : WidB b y z) : WidB b x z := ⟨Nat.le_trans h.nx k.nx, fun r hr => (k.get r hr).trans (h.get r hr)⟩
theorem WidB.new {b : Nat} {h g : Hp} (k : WidB b h g) (hb : b ≤ g.nx) (o : AObj) : WidB b h (g.new o) := ⟨Nat.le_trans k.nx (Nat.le_succ _), fun r hr => by rw [Hp.get_new, if_neg (by omega)]; exact k.get r hr⟩
theorem WidB.put {b : Nat} {h g : Hp} (k : WidB b h g) {r : Nat} (hr : b ≤ r) (o : AObj) : WidB b h (g.put r o) := ⟨k.nx, fun s hs => by rw [Hp.get_put, if_neg (by omega)]; exact k.get s hs⟩
def Own (es : Nat) (eT : TypeId) (b : Nat) (h : Hp) (v : AV) (rows : List (List AV)) : Prop :=
 (v = .nilsl ∧ rows = []) ∨ (rows ≠ [] ∧ ∃ r, b ≤ r ∧ r < h.nx ∧ v = .sl r 0 rows.length rows.length es false ∧ h.get r = some (.cells eT rows.flatten))
theorem Own.nil {es : Nat} {eT : TypeId} {b : Nat} {h : Hp} : Own es eT b h .nilsl [] := .inl ⟨rfl, rfl⟩
theorem Own.wid {es : Nat} {eT : TypeId} {b : Nat} {h g : Hp} {v : AV} {rows : List (List AV)} (ho : Own es eT b h v rows) (hw : Wid h g) : Own es eT b g v rows := by
 rcases ho with h1 | ⟨h1, r, h2, h3, h4, h5⟩
 ·exact .inl h1
 ·exact .inr ⟨h1, r, h2, by have := hw.nx; omega, h4, hw.at h5 h3⟩
theorem flat_len {es : Nat} : ∀ {rows : List (List AV)}, (∀ c ∈ rows, c.length = es) → rows.flatten.length = rows.length * es
  | [], _ => by simp
  | c :: r, h => by
    rw [List.flatten_cons, List.length_append, h c List.mem_cons_self, flat_len fun x hx => h x (List.mem_cons_of_mem _ hx), List.length_cons, Nat.add_mul, Nat.one_mul, Nat.add_comm]
def slT (C : Ctx) (t eT : TypeId) (es : Nat) : Bool :=
 match C.ti t, C.ti eT with
 | some { desc := .slice e, .. }, some y => decide (e = eT) && (decide (y.size = es) && (y.zeroOk && decide (y.bytes ≤ 1000000)))
 | _, _ => false
theorem Own.push {es : Nat} {t eT : TypeId} {b : Nat} {v : AV} {rows : List (List AV)} {row : List AV} (ht : slT C t eT es = true) (ho : Own es eT b h v rows) (hrows : ∀ c ∈ rows, c.length = es) (hrow : row.length = es) (hcell : row.all isCell = true) (hlen : rows.length < 1000000) (hb : b ≤ h.nx) :
    ∃ v' h', appendA C t t v (.sl h.nx 0 1 1 es true) (h.new (.cells eT row)) = some (v', h') ∧ Own es eT b h' v' (rows ++ [row]) ∧ WidB b h h' ∧ h'.nx = h.nx + 2 := by
  unfold slT at ht
  split at ht
  case h_2 => cases ht
  rename_i e size isAgg zero zeroOk bytes comparable zv y hti hy
  simp only [Bool.and_eq_true, decide_eq_true_eq] at ht
  obtain ⟨rfl, hys, hz, hby⟩ := ht
  have hsrc : srcCells (h.new (.cells e row)) y.size 1 (.sl h.nx 0 1 1 es true) = some row := by
    unfold srcCells
    simp [get_new, sub, hys, ← hrow]
  have key : ∀ s, appendA C t t s (.sl h.nx 0 1 1 es true) (h.new (.cells e row)) = (match s with
        | .nilsl => some (.sl (h.nx + 1) 0 1 1 y.size false, (h.new (.cells e row)).new (.cells e row))
        | .sl r o len cap es' ex =>
          (match (h.new (.cells e row)).get r with
           | some (.cells e' cs) =>
             bif Nat.beq es' y.size && (Nat.ble (Nat.add o (Nat.mul len es')) cs.length && Nat.ble (Nat.add len 1) 1000000) then
               bif Nat.ble (Nat.add len 1) cap then
                 (bif Nat.ble (Nat.add (Nat.add o (Nat.mul len es')) row.length) cs.length then
                   some (.sl r o (Nat.add len 1) cap es' ex, (h.new (.cells e row)).put r (.cells e' (putCells cs (Nat.add o (Nat.mul len es')) row))) else none)
               else bif ex then some (.sl (h.nx + 1) 0 (Nat.add len 1) (Nat.add len 1) es' false, (h.new (.cells e row)).new (.cells e ((cs.drop o).take (Nat.mul len es') ++ row)))
               else bif Nat.beq o 0 && Nat.ble (Nat.mul len es') cs.length then
                 (bif Nat.beq e e' then some (.sl (h.nx + 1) 0 (Nat.add len 1) (Nat.add len 1) es' false, ((h.new (.cells e row)).put r .dead).new (.cells e' (cs.take (Nat.mul len es') ++ row))) else none)
               else none
             else none
           | _ => none)
        | _ => none) := fun s => by
    unfold appendA
    simp only [hti, hy, lenA, isSrc, hsrc, hcell, hz]
    have h1 : Nat.ble y.bytes 1000000 = true := Nat.ble_eq_true_of_le hby
    have h2 : Nat.beq row.length (Nat.mul 1 y.size) = true := by rw [hrow, hys, Nat.mul_eq, Nat.one_mul, Nat.beq_refl]
    rw [h1, h2]
    cases s <;> rfl
  rcases ho with ⟨rfl, rfl⟩ | ⟨hne, r, hbr, hrn, rfl, hg⟩
  · refine ⟨_, _, key _, .inr ⟨by simp, h.nx + 1, by omega, Nat.lt_succ_self _, ?_, ?_⟩, (WidB.refl b h).new hb _ |>.new (by show b ≤ h.nx + 1; omega) _, rfl⟩
    · simp [hys]
    · simp [get_new, nx_new]
  · have hg' : (h.new (.cells e row)).get r = some (.cells e rows.flatten) := by rw [get_new, if_neg (by omega)]; exact hg
    have hfl := flat_len hrows
    refine ⟨.sl (h.nx + 1) 0 (rows.length + 1) (rows.length + 1) es false, ((h.new (.cells e row)).put r .dead).new (.cells e (rows.flatten ++ row)), ?_, .inr ⟨by simp, h.nx + 1, by omega, Nat.lt_succ_self _, ?_, ?_⟩, ?_, rfl⟩
    · rw [key]
      dsimp only
      rw [hg']
      have e1 : Nat.beq es y.size = true := by rw [hys, Nat.beq_refl]
      have e2 : Nat.ble (Nat.add 0 (Nat.mul rows.length es)) rows.flatten.length = true := Nat.ble_eq_true_of_le (by rw [hfl]; simp)
      have e3 : Nat.ble (Nat.add rows.length 1) 1000000 = true := Nat.ble_eq_true_of_le (by simp; omega)
      have e4 : Nat.ble (Nat.add rows.length 1) rows.length = false := by
        cases hc : Nat.ble (Nat.add rows.length 1) rows.length with
        | false => rfl
        | true => have := Nat.le_of_ble_eq_true hc; simp at this; omega
      have e5 : Nat.ble (Nat.mul rows.length es) rows.flatten.length = true := Nat.ble_eq_true_of_le (by rw [hfl]; exact Nat.le_refl _)
      dsimp only
      rw [e1, e2, e3, e4, e5, Nat.beq_refl, Nat.beq_refl]
      have e6 : rows.flatten.take (Nat.mul rows.length es) = rows.flatten := List.take_of_length_le (by rw [hfl]; exact Nat.le_refl _)
      rw [e6]
      rfl
    · simp
    · simp [get_new, nx_new, nx_put]
    · exact (((WidB.refl b h).new hb _).put hbr _).new (by show b ≤ h.nx + 1; omega) _
theorem a_append {P : Program} {ih : Code → St → Res} {s : St} {dd : Option Nat} {x y : Operand} {t u : TypeId} {ts : List TypeId} {ty : TypeId} {pos : String} {aft : Array Edge} {gd : Option (Nat × Bool)} :
  opA P C ih s ⟨dd, .call { callee := .builtin .append, args := #[x, y], argTypes := ⟨t :: u :: ts⟩ }, ty, pos, aft, gd⟩ = (appendA C t u (s.ev C x) (s.ev C y) s.h).map fun r => .val r.1 r.2 := by
 show (match appendA C t u (s.ev C x) (s.ev C y) s.h with | some (v, h') => some (OpR.val v h') | none => none) = _
 cases appendA C t u (s.ev C x) (s.ev C y) s.h <;> rfl
theorem a_buildSlice {P : Program} {ih : Code → St → Res} {s : St} {dd : Option Nat} {t : TypeId} {k : Nat} {ps : Array (Nat × Operand)} {ty : TypeId} {pos : String} {aft : Array Edge} {gd : Option (Nat × Bool)} :
  opA P C ih s ⟨dd, .buildSlice t k ps, ty, pos, aft, gd⟩ = (buildSlice C t k (ps.toList.map fun p => (p.1, s.ev C p.2)) s.h).map fun r => .val r.1 r.2 := by
 show ov _ (buildSlice C t k (ps.toList.map fun p => (p.1, s.ev C p.2)) s.h) = _
 cases buildSlice C t k (ps.toList.map fun p => (p.1, s.ev C p.2)) s.h <;> rfl
theorem a_build {P : Program} {ih : Code → St → Res} {s : St} {dd : Option Nat} {t : TypeId} {ps : Array (Nat × Operand)} {ty : TypeId} {pos : String} {aft : Array Edge} {gd : Option (Nat × Bool)} :
  opA P C ih s ⟨dd, .build t ps, ty, pos, aft, gd⟩ = (build C t (ps.toList.map fun p => (p.1, s.ev C p.2))).map fun v => .val v s.h := by
 show ov _ (build C t (ps.toList.map fun p => (p.1, s.ev C p.2))) = _
 cases build C t (ps.toList.map fun p => (p.1, s.ev C p.2)) <;> rfl
theorem zeroCells_eq (z : List AV) : ∀ k, zeroCells k z = (List.replicate k z).flatten
  | 0 => rfl
  | k + 1 => by
    show z ++ zeroCells k z = _
    rw [zeroCells_eq z k, List.replicate_succ, List.flatten_cons]
attribute [simp] a_append a_buildSlice a_build buildSlice build fillA zeroCells_eq
def RdI (h : Hp) (v : AV) (xs : List Int) : Prop :=
 (v = .nilsl ∧ xs = []) ∨ v = .isl (xs.map fun n => [.int .i64 n]) ∨
  ∃ r o cap ex e cs, v = .sl r o xs.length cap 1 ex ∧ r < h.nx ∧ h.get r = some (.cells e cs) ∧ o + xs.length ≤ cs.length ∧ ∀ i (hi : i < xs.length), cs[o + i]? = some (.int .i64 xs[i])
theorem RdI.wid {g : Hp} {v : AV} {xs : List Int} (hr : RdI h v xs) (hw : Wid h g) : RdI g v xs := by
 rcases hr with h1 | h1 | ⟨r, o, cap, ex, e, cs, h1, h2, h3, h5, h4⟩
 ·exact .inl h1
 ·exact .inr (.inl h1)
 ·exact .inr (.inr ⟨r, o, cap, ex, e, cs, h1, by have := hw.nx; omega, hw.at h3 h2, h5, h4⟩)
theorem RdI.len {v : AV} {xs : List Int} (hr : RdI h v xs) : lenA v = some xs.length ∧ ∀ s, v ≠ .str s := by
 rcases hr with ⟨rfl, rfl⟩ | rfl | ⟨r, o, cap, ex, e, cs, rfl, _⟩
 ·exact ⟨rfl, nofun⟩
 ·exact ⟨by simp [lenA], nofun⟩
 ·exact ⟨rfl, nofun⟩
theorem RdI.lenOf {v : AV} {xs : List Int} {t eT : TypeId} {es : Nat} (hr : RdI h v xs) (ht : slT C t eT es = true) (g : Hp) : lenOfA C t v g = some (.int .i64 xs.length) := by
 unfold slT at ht
 split at ht
 case h_2 => cases ht
 rename_i e size isAgg zero zeroOk bytes comparable zv y hti hy
 unfold lenOfA
 rw [hti]
 obtain ⟨h1, h2⟩ := hr.len
 cases v <;> first | exact absurd rfl (h2 _) | (dsimp only; rw [h1]; rfl)
theorem RdI.at' {v : AV} {xs : List Int} {t eT : TypeId} (hr : RdI h v xs) (ht : slT C t eT 1 = true) (hs : (match C.ti eT with | some y => y.isAgg | none => true) = false) {q : IntKind} {i : Nat} (hi : i < xs.length) :
  ∃ p, indexAt C t v (.int q i) = some p ∧ ∀ g, Wid h g → loadAt C eT p g = some (.int .i64 xs[i]) := by
 unfold slT at ht
 split at ht
 case h_2 => cases ht
 rename_i e size isAgg zero zeroOk bytes comparable zv y hti hy
 simp only [Bool.and_eq_true, decide_eq_true_eq] at ht
 obtain ⟨rfl, hys, hz, hby⟩ := ht
 rw [hy] at hs
 dsimp only at hs
 rcases hr with ⟨rfl, rfl⟩ | rfl | ⟨r, o, cap, ex, e', cs, rfl, h2, h3, h5, h4⟩
 ·simp at hi
 ·refine ⟨.iptr (xs.map fun n => [.int .i64 n]) i 0, ?_, fun g _ => ?_⟩
  ·unfold indexAt
   simp only [hti, natOf_cast, hy, List.getElem?_map, List.getElem?_eq_getElem hi, Option.map_some, List.length_cons, List.length_nil, hys]
   rfl
  ·unfold loadAt
   simp only [hy, List.getElem?_map, List.getElem?_eq_getElem hi, Option.map_some, partOf, hs]
   rfl
 ·refine ⟨.ptr r (o + i * 1), ?_, fun g hw => ?_⟩
  ·unfold indexAt
   simp only [hti, natOf_cast, hy, hys, Nat.beq_refl]
   have : Nat.blt i xs.length = true := Nat.ble_eq_true_of_le hi
   rw [this]; rfl
  ·unfold loadAt
   simp only [hy, hw.at h3 h2, partOf, hs, Nat.mul_one]
   exact h4 i hi
theorem Own.rdI {eT : TypeId} {b : Nat} {v : AV} {xs : List Int} (ho : Own 1 eT b h v (xs.map fun n => [.int .i64 n])) : RdI h v xs := by
 rcases ho with ⟨rfl, h1⟩ | ⟨hne, r, hb, hn, rfl, hg⟩
 ·exact .inl ⟨rfl, by simpa using h1⟩
 ·have : (xs.map fun n => [AV.int .i64 n]).flatten = xs.map fun n => AV.int .i64 n := by
   clear hne hn hg
   induction xs with
   | nil => rfl
   | cons a l ih => simp [ih]
  rw [this] at hg
  refine .inr (.inr ⟨r, 0, xs.length, false, eT, _, by simp, hn, hg, by simp, fun i hi => ?_⟩)
  simp [hi]
theorem Own.frz {es : Nat} {eT : TypeId} {b : Nat} {v : AV} {rows : List (List AV)} {rows' : List (List AV)} {k : Nat} (ho : Own es eT b h v rows) (hrows : ∀ c ∈ rows, c.length = es) (hf : mapO (mapO (frzV k h)) rows = some rows') :
    frzV (k + 1) h v = some (match rows' with | [] => .nilsl | l => .isl l) := by
  have len : ∀ {α β : Type} {f : α → Option β} {l : List α} {l' : List β}, mapO f l = some l' → l'.length = l.length := fun {α β f} => by
    intro l
    induction l with
    | nil => intro l' h; cases h; rfl
    | cons a l ih =>
      intro l' h
      unfold mapO at h
      split at h
      case h_2 => cases h
      split at h
      case h_2 => cases h
      rename_i k hk
      cases h
      simp [ih hk]
  rcases ho with ⟨rfl, rfl⟩ | ⟨hne, r, hb, hn, rfl, hg⟩
  · cases hf; rfl
  · have hfl := flat_len hrows
    have hch : ∀ (rows : List (List AV)), (∀ c ∈ rows, c.length = es) → chunks es rows.length rows.flatten = rows := by
      intro rows
      induction rows with
      | nil => intro _; rfl
      | cons c l ih =>
        intro hc
        have h1 := hc c List.mem_cons_self
        show ((c ++ l.flatten).take es) :: chunks es l.length ((c ++ l.flatten).drop es) = _
        rw [List.take_left' h1, List.drop_left' h1, ih fun x hx => hc x (List.mem_cons_of_mem _ hx)]
    have h1 := len hf
    have h2 : rows' ≠ [] := fun e => hne (List.eq_nil_of_length_eq_zero (by rw [← h1, e]; rfl))
    unfold frzV
    simp only [hg, List.drop_zero, hch rows hrows, hf]
    have h3 : Nat.ble (Nat.add 0 (Nat.mul rows.length es)) rows.flatten.length = true := Nat.ble_eq_true_of_le (by rw [hfl]; simp)
    rw [h3]
    cases rows' with
    | nil => exact absurd rfl h2
    | cons _ _ => rfl
theorem RdI.src {v : AV} {xs : List Int} (hr : RdI h v xs) : srcCells h 1 xs.length v = some (xs.map (.int .i64)) := by
 rcases hr with ⟨rfl, rfl⟩ | rfl | ⟨r, o, cap, ex, e, cs, rfl, h2, h3, h5, h4⟩
 ·rfl
 ·unfold srcCells
  dsimp only
  have h1 : (xs.map fun n => [AV.int .i64 n]).all (fun c => Nat.beq c.length 1) = true := by rw [List.all_eq_true]; intro c hc; obtain ⟨n, _, rfl⟩ := List.mem_map.1 hc; rfl
  have h2 : Nat.ble xs.length (xs.map fun n => [AV.int .i64 n]).length = true := Nat.ble_eq_true_of_le (by simp)
  rw [h1, h2]
  have h3 : ((xs.map fun n => [AV.int .i64 n]).take xs.length).flatten = xs.map fun n => AV.int .i64 n := by
   rw [List.take_of_length_le (by simp)]
   clear h1 h2
   induction xs with
   | nil => rfl
   | cons a l ih => simp [ih]
  simp only [Bool.and_self, cond_true, h3]
 ·unfold srcCells
  dsimp only
  rw [Nat.ble_eq_true_of_le (Nat.le_refl _), Nat.beq_refl]
  simp only [Bool.and_self, cond_true, h3]
  unfold sub
  rw [Nat.ble_eq_true_of_le (show Nat.add o (Nat.mul xs.length 1) ≤ cs.length by simpa using h5), cond_true, Nat.mul_eq, Nat.mul_one]
  congr 1
  apply List.ext_getElem?
  intro i
  by_cases hi : i < xs.length
  ·rw [List.getElem?_take_of_lt hi, List.getElem?_drop, h4 i hi, List.getElem?_map, List.getElem?_eq_getElem hi]; rfl
  ·rw [List.getElem?_take_eq_none (by omega), List.getElem?_eq_none (by simp; omega)]
theorem app_lit {t eT : TypeId} (ht : slT C t eT 1 = true) {q : Nat} {x : Int} {v : AV} {xs : List Int} (hq : h.get q = some (.cells eT [.int .i64 x])) (hqn : q < h.nx) (hr : RdI h v xs) (hlen : xs.length < 999999) :
    ∃ v' h', appendA C t t (.sl q 0 1 1 1 true) v h = some (v', h') ∧ RdI h' v' (x :: xs) ∧ (∀ r, r < h.nx → h'.get r = h.get r) ∧ h.nx ≤ h'.nx := by
  have hl := hr.len.1
  have hsrc := hr.src
  unfold slT at ht
  split at ht
  case h_2 => cases ht
  rename_i e size isAgg zero zeroOk bytes comparable zv y hti hy
  simp only [Bool.and_eq_true, decide_eq_true_eq] at ht
  obtain ⟨rfl, hys, hz, hby⟩ := ht
  have hcell : (xs.map (AV.int .i64)).all isCell = true := by rw [List.all_eq_true]; intro c hc; obtain ⟨n, _, rfl⟩ := List.mem_map.1 hc; rfl
  have h1 : Nat.ble y.bytes 1000000 = true := Nat.ble_eq_true_of_le hby
  have h2 : Nat.beq (xs.map (AV.int .i64)).length (Nat.mul xs.length y.size) = true := by rw [hys, Nat.mul_eq, Nat.mul_one, List.length_map, Nat.beq_refl]
  have e1 : Nat.beq 1 y.size = true := by rw [hys]; rfl
  have e3 : Nat.ble (Nat.add 1 xs.length) 1000000 = true := Nat.ble_eq_true_of_le (by simp; omega)
  by_cases hx : xs = []
  · subst hx
    refine ⟨.sl q 0 1 1 1 true, h.put q (.cells e [.int .i64 x]), ?_, .inr (.inr ⟨q, 0, 1, true, e, _, rfl, hqn, by rw [get_put, if_pos rfl], by simp, fun i hi => ?_⟩), fun r hr => ?_, Nat.le_refl _⟩
    · unfold appendA
      simp only [hti, hy, hl, isSrc, hys, hsrc, hcell, h1]
      simp only [hq]
      rfl
    · have : i = 0 := by simpa using hi
      subst this; rfl
    · rw [get_put]
      by_cases hqr : q = r
      · subst hqr; rw [if_pos rfl, hq]
      · rw [if_neg hqr]
  · have hpos : 0 < xs.length := List.length_pos_iff.2 hx
    have e4 : Nat.ble (Nat.add 1 xs.length) 1 = false := by
      cases hc : Nat.ble (Nat.add 1 xs.length) 1 with
      | false => rfl
      | true => have := Nat.le_of_ble_eq_true hc; simp at this; omega
    refine ⟨.sl h.nx 0 (1 + xs.length) (1 + xs.length) 1 false, h.new (.cells e ([.int .i64 x] ++ xs.map (.int .i64))), ?_, .inr (.inr ⟨h.nx, 0, 1 + xs.length, false, e, _, by simp [Nat.add_comm], Nat.lt_succ_self _, by rw [get_new, if_pos rfl], by simp, fun i hi => ?_⟩), fun r hr => by rw [get_new, if_neg (by omega)], Nat.le_succ _⟩
    · unfold appendA
      simp only [hti, hy, hl, isSrc, hys, hsrc, hcell, h1]
      rw [hys] at h2
      rw [h2]
      simp only [hq, hz]
      rw [e3, e4]
      rfl
    · cases i with
      | zero => rfl
      | succ i =>
        have hi' : i < xs.length := by simpa using hi
        simp [hi']
theorem rdI_lit {q : Nat} {x : Int} {e : TypeId} {ex : Bool} {cap : Nat} (hg : h.get q = some (.cells e [.int .i64 x])) (hq : q < h.nx) : RdI h (.sl q 0 1 cap 1 ex) [x] :=
 .inr (.inr ⟨q, 0, cap, ex, e, _, rfl, hq, hg, Nat.le_refl _, fun i hi => by have : i = 0 := (by simpa using hi); subst this; rfl⟩)
theorem TW.gen {P : Program} {F : Nat → Option Obj} {c : Code} {n : Nat} {rd : Option Nat} {l : Kn} {ds : List ADef} {Q : PQ} (p : Hp → Prop) (hp : p h) (ht : ∀ g, p g → TW P F c n rd l g ds Q) : TW P F c n rd l h ds Q := ht h hp
theorem bMul {C : Ctx} {t : TypeId} {a b : Int} (h1 : -9223372036854775808 ≤ a * b) (h2 : a * b ≤ 9223372036854775807) : binOpA C .mul t (.int .i64 a) (.int .i64 b) = some (.int .i64 (a * b)) := by
 show some (AV.int .i64 (wrapF .i64 (mulI a b))) = _; rw [mulI_eq, wrap_i64 h1 h2]
theorem inc_ {C : Ctx} {t : TypeId} {i : Nat} (h1 : i < 4611686018427387904) : binOpA C .add t (.int .i64 (i : Int)) (.int .i64 1) = some (.int .i64 ((i : Int) + 1)) := bAdd (by omega) (by omega)
end Go.Ax
noncomputable section
namespace Go.Ax
variable {P : Program} {F : Nat → Option Obj} {gl : Nat → AV} {eqT : Knob} {C : Ctx} {n : Nat} {rd : Option Nat} {l l' : Kn} {h h1 : Hp} {ds : List ADef} {s : St} {Q Q' : PQ} {all rest : List Oper}
abbrev RK := Option (Kn × Hp × List Oper)
def runG (P : Program) (C : Ctx) (n : Nat) (all : List Oper) : List Oper → Kn → Hp → RK
  | [], l, h => some (l, h, [])
  | o :: r, l, h => match wantK all l o with
    | none => none
    | some b => bif b then
        (if stops o = true then some (l, h, o :: r) else if knowns l o.op.operands.toList = true then (match opA P C nix (knSt l h) o with
        | some (.val v h1) => (match o.dst with
          | some d => if d < n then runG P C n all r ((d, v) :: l) h1 else none
          | none => runG P C n all r l h1)
        | _ => none) else none)
      else (match o.dst with
        | some d => if d < n then runG P C n all r ((d, .tup []) :: l) h else none
        | none => runG P C n all r l h)
def contG (P : Program) (C : Ctx) (n : Nat) (all : List Oper) (b : Bool) (o : Oper) (r : List Oper) (l : Kn) (h : Hp) : RK :=
  bif b then
        (if stops o = true then some (l, h, o :: r) else if knowns l o.op.operands.toList = true then (match opA P C nix (knSt l h) o with
        | some (.val v h1) => (match o.dst with
          | some d => if d < n then runG P C n all r ((d, v) :: l) h1 else none
          | none => runG P C n all r l h1)
        | _ => none) else none)
      else (match o.dst with
        | some d => if d < n then runG P C n all r ((d, .tup []) :: l) h else none
        | none => runG P C n all r l h)
def putG (P : Program) (C : Ctx) (n : Nat) (all r : List Oper) (d : Option Nat) (l : Kn) : Option OpR → RK
  | some (.val v h1) => (match d with
          | some d => if d < n then runG P C n all r ((d, v) :: l) h1 else none
          | none => runG P C n all r l h1)
  | _ => none
theorem runG_nil {l : Kn} {h : Hp} : runG P C n all [] l h = some (l, h, []) := Eq.trans rfl rfl
def wG (P : Program) (C : Ctx) (n : Nat) (all : List Oper) (w : Option Bool) (o : Oper) (r : List Oper) (l : Kn) (h : Hp) : RK :=
 match w with
 | none => none
 | some b => contG P C n all b o r l h
def skipG (P : Program) (C : Ctx) (n : Nat) (all r : List Oper) (d : Option Nat) (l : Kn) (h : Hp) : RK :=
 match d with
 | some d => if d < n then runG P C n all r ((d, .tup []) :: l) h else none
 | none => runG P C n all r l h
theorem runG_cons {o : Oper} {r : List Oper} {l : Kn} {h : Hp} : runG P C n all (o :: r) l h = wG P C n all (wantK all l o) o r l h := by
 show (match wantK all l o with | none => none | some b => _) = _
 cases wantK all l o <;> rfl
theorem wG_some {b : Bool} {o : Oper} {r : List Oper} {l : Kn} {h : Hp} : wG P C n all (some b) o r l h = contG P C n all b o r l h := Eq.trans rfl rfl
theorem contG_true {o : Oper} {r : List Oper} {l : Kn} {h : Hp} : contG P C n all true o r l h = if stops o = true then some (l, h, o :: r) else if knowns l o.op.operands.toList = true then putG P C n all r o.dst l (opA P C nix (knSt l h) o) else none := by
 refine Eq.trans ?_ rfl
 unfold contG putG
 rfl
theorem contG_false {o : Oper} {r : List Oper} {l : Kn} {h : Hp} : contG P C n all false o r l h = skipG P C n all r o.dst l h := Eq.trans rfl rfl
theorem skipG_dst {r : List Oper} {d : Nat} {l : Kn} {h : Hp} : skipG P C n all r (some d) l h = if d < n then runG P C n all r ((d, .tup []) :: l) h else none := Eq.trans rfl rfl
theorem putG_dst {r : List Oper} {d : Nat} {l : Kn} {v : AV} {h : Hp} : putG P C n all r (some d) l (some (.val v h)) = if d < n then runG P C n all r ((d, v) :: l) h else none := Eq.trans rfl rfl
theorem putG_none {r : List Oper} {l : Kn} {v : AV} {h : Hp} : putG P C n all r none l (some (.val v h)) = runG P C n all r l h := Eq.trans rfl rfl
theorem TO.runG (hP : POk P F gl eqT) : ∀ {rest : List Oper} {l : Kn} {h : Hp}, goK P F all n rd ds Q (runG P (Ctx.of P gl eqT) n all rest l h) → TO P F all rest n rd l h ds Q
  | [], l, h, hg => .nil hg
  | o :: r, l, h, hg => by
    have hod : ∀ {v h1}, knowns l o.op.operands.toList = true → opA P (Ctx.of P gl eqT) nix (knSt l h) o = some (.val v h1) → OpT P F o n rd l h ds (fun u g => u = v ∧ g = h1) := fun hk ho => .det hP nix_sound fun s hs => by
      rw [opA_congr (s' := knSt l h) hs.h (fun x hx => knowns_ev hs hk x (by simpa using hx))]
      exact ho
    unfold Go.Ax.runG at hg
    split at hg
    · cases hg
    rename_i b hw
    cases b with
    | true =>
      rw [cond_true] at hg
      split at hg
      · exact hg
      split at hg
      case isFalse => cases hg
      rename_i hk
      split at hg
      case h_2 => cases hg
      rename_i v h1 ho
      split at hg
      · rename_i d hd
        split at hg
        case isFalse => cases hg
        rename_i hb
        exact .step hw hd (Nat.ble_eq_true_of_le hb) (hod hk ho) fun v' h' e => by obtain ⟨rfl, rfl⟩ := e; exact .runG hP hg
      · rename_i hd
        exact .step0 hw hd (hod hk ho) fun v' h' e => by obtain ⟨rfl, rfl⟩ := e; exact .runG hP hg
    | false =>
      rw [cond_false] at hg
      split at hg
      · rename_i d hd
        split at hg
        case isFalse => cases hg
        rename_i hb
        exact .left hw hd (Nat.ble_eq_true_of_le hb) (.runG hP hg)
      · rename_i hd
        exact .left0 hw hd (.runG hP hg)
theorem TW.regG (hP : POk P F gl eqT) {id : Nat} {ops : Array Oper} {r : RK} (hr : Go.Ax.runG P (Ctx.of P gl eqT) n ops.toList ops.toList l h = r) (hg : goK P F ops.toList n rd ds Q r) : TW P F (.region id ops false) n rd l h ds Q := by
 subst hr
 exact .region (.runG hP hg)
theorem TO.runsG (hP : POk P F gl eqT) {r : RK} (hr : Go.Ax.runG P (Ctx.of P gl eqT) n all rest l h = r) (hg : goK P F all n rd ds Q r) : TO P F all rest n rd l h ds Q := by
 subst hr
 exact .runG hP hg
theorem goK_guard {b : Bool} {o : Oper} {r : List Oper} (ht : b = true → goK P F all n rd ds Q (contG P C n all true o r l h)) (hf : b = false → goK P F all n rd ds Q (contG P C n all false o r l h)) : goK P F all n rd ds Q (contG P C n all b o r l h) := by
 cases b with
 | true => exact ht rfl
 | false => exact hf rfl
theorem goK_eq {x r : RK} (hr : x = r) (hg : goK P F all n rd ds Q r) : goK P F all n rd ds Q x := by subst hr; exact hg
attribute [simp] contG_true contG_false runG_nil runG_cons putG_dst putG_none wG_some skipG_dst
attribute [irreducible] contG runG putG wG skipG
end Go.Ax
noncomputable section
namespace Go.Ax
variable {C : Ctx} {h : Hp}
def isSrcT : Option TI → Bool
 | some ti => isSrc ti.desc
 | none => false
theorem Own.more {es : Nat} {t xt eT : TypeId} {b k : Nat} {v x : AV} {rows rows' : List (List AV)} (ht : slT C t eT es = true) (hxt : isSrcT (C.ti xt) = true) (ho : Own es eT b h v rows) (hrows : ∀ c ∈ rows, c.length = es) (hl : lenA x = some k) (hk : rows'.length = k)
    (hsrc : srcCells h es k x = some rows'.flatten) (hrows' : ∀ c ∈ rows', c.length = es) (hcell : rows'.flatten.all isCell = true) (hlen : rows.length + rows'.length ≤ 1000000) (hb : b ≤ h.nx) :
    ∃ v' h', appendA C t xt v x h = some (v', h') ∧ Own es eT b h' v' (rows ++ rows') ∧ WidB b h h' := by
  unfold slT at ht
  split at ht
  case h_2 => cases ht
  rename_i e size isAgg zero zeroOk bytes comparable zv y hti hy
  simp only [Bool.and_eq_true, decide_eq_true_eq] at ht
  obtain ⟨rfl, hys, hz, hby⟩ := ht
  subst hk
  have hnl : rows'.flatten.length = rows'.length * es := flat_len hrows'
  cases hx : C.ti xt with
  | none => rw [hx] at hxt; cases hxt
  | some xi =>
  rw [hx] at hxt
  have hxi : isSrc xi.desc = true := hxt
  have key : ∀ s, appendA C t xt s x h = (match s with
        | .nilsl => bif Nat.beq rows'.length 0 then some (.nilsl, h) else
            bif y.zeroOk && Nat.ble rows'.length 1000000 then some (.sl h.nx 0 rows'.length rows'.length y.size false, h.new (.cells e rows'.flatten)) else none
        | .sl r o len cap es' ex =>
          (match h.get r with
           | some (.cells e' cs) =>
             bif Nat.beq es' y.size && (Nat.ble (Nat.add o (Nat.mul len es')) cs.length && Nat.ble (Nat.add len rows'.length) 1000000) then
               bif Nat.ble (Nat.add len rows'.length) cap then
                 (bif Nat.ble (Nat.add (Nat.add o (Nat.mul len es')) rows'.flatten.length) cs.length then
                   some (.sl r o (Nat.add len rows'.length) cap es' ex, h.put r (.cells e' (putCells cs (Nat.add o (Nat.mul len es')) rows'.flatten))) else none)
               else bif !y.zeroOk then none else bif ex then some (.sl h.nx 0 (Nat.add len rows'.length) (Nat.add len rows'.length) es' false, h.new (.cells e ((cs.drop o).take (Nat.mul len es') ++ rows'.flatten)))
               else bif Nat.beq o 0 && Nat.ble (Nat.mul len es') cs.length then
                 (bif Nat.beq e e' then some (.sl h.nx 0 (Nat.add len rows'.length) (Nat.add len rows'.length) es' false, (h.put r .dead).new (.cells e' (cs.take (Nat.mul len es') ++ rows'.flatten))) else none)
               else none
             else none
           | _ => none)
        | _ => none) := fun s => by
    unfold appendA
    rw [hti, hx, hl]
    dsimp only
    rw [hy, hxi]
    dsimp only
    rw [hys, hsrc]
    dsimp only
    rw [hcell]
    have h2 : Nat.ble y.bytes 1000000 = true := Nat.ble_eq_true_of_le hby
    have h3 : Nat.beq rows'.flatten.length (Nat.mul rows'.length es) = true := by rw [hnl]; exact Nat.beq_refl _
    rw [h2, h3]
    cases s <;> rfl
  by_cases h0 : rows'.length = 0
  · obtain rfl := List.eq_nil_of_length_eq_zero h0
    rcases ho with ⟨rfl, rfl⟩ | ⟨h1, r, h2, h3, rfl, h5⟩
    · exact ⟨.nilsl, h, by rw [key]; rfl, .inl ⟨rfl, rfl⟩, .refl _ _⟩
    · have hfl := flat_len hrows
      refine ⟨.sl r 0 rows.length rows.length es false, h.put r (.cells e rows.flatten), ?_, .inr ⟨by simpa using h1, r, h2, h3, ?_, ?_⟩, (WidB.refl _ _).put h2 _⟩
      · rw [key]
        simp only [h5]
        simp [beq_dec, ble_dec, hys, hfl, putCells]
        have := hlen
        simp at this
        simp [this]
      · simp
      · simp [get_put]
  · have hne : rows' ≠ [] := fun e => h0 (by rw [e]; rfl)
    rcases ho with ⟨rfl, rfl⟩ | ⟨h1, r, h2, h3, rfl, h5⟩
    · refine ⟨.sl h.nx 0 rows'.length rows'.length es false, h.new (.cells e rows'.flatten), ?_, .inr ⟨by simpa using hne, h.nx, hb, by simp [nx_new], by simp, ?_⟩, (WidB.refl _ _).new hb _⟩
      · rw [key]
        have h4 : rows'.length ≤ 1000000 := by simpa using hlen
        simp [beq_dec, ble_dec, h0, hz, hys, h4]
      · simp [get_new]
    · have hfl := flat_len hrows
      refine ⟨.sl h.nx 0 (rows ++ rows').length (rows ++ rows').length es false, (h.put r .dead).new (.cells e (rows ++ rows').flatten), ?_, .inr ⟨by simp [h1], h.nx, hb, by simp [nx_new, nx_put], rfl, ?_⟩, ((WidB.refl _ _).put h2 _).new hb _⟩
      · rw [key]
        simp only [h5]
        have h6 : rows.length + rows'.length ≤ 1000000 := hlen
        have h7 : ¬ rows.length + rows'.length ≤ rows.length := by omega
        have h8 : rows.flatten.take (rows.length * es) = rows.flatten := List.take_of_length_le (by omega)
        simp only [beq_dec, ble_dec, hys, hfl, hz, h8, Nat.add_eq, Nat.mul_eq, decide_eq_false h7, decide_eq_true h6]
        simp
      · simp [get_new, nx_put]
end Go.Ax
noncomputable section
namespace Go.Ax
mutual
def scal : AV → Bool
 | .bool _ => true
 | .int _ _ => true
 | .str _ => true
 | .nilsl => true
 | .nilptr => true
 | .nilif => true
 | .tup l => scals l
 | .agg l => scals l
 | _ => false
def scals : List AV → Bool
 | [] => true
 | v :: l => scal v && scals l
end
theorem scals_at : ∀ {l : List AV} {i : Nat} {x : AV}, scals l = true → l[i]? = some x → scal x = true
  | [], i, x, _, h => by simp at h
  | v :: l, 0, x, h, hx => by
    simp at hx; subst hx
    unfold scals at h
    exact (and_bool h).1
  | v :: l, i + 1, x, h, hx => by
    unfold scals at h
    exact scals_at (and_bool h).2 (by simpa using hx)
variable {P : Program} {F : Nat → Option Obj}
theorem VRel.scal {m m' : Loc} {x : AV} {v : Value} (h : VRel P F m x v) : Go.Ax.scal x = true → VRel P F m' x v := by
 induction h with
 | bool b => intro _; exact .bool b
 | int k n => intro _; exact .int k n
 | str s => intro _; exact .str s
 | nilptr => intro _; exact .nilptr
 | nilsl => intro _; exact .nilsl
 | nilif => intro _; exact .nilif
 | agg hl _ ih => intro hn; simp only [Go.Ax.scal] at hn; exact .agg hl fun i x y hx hy => ih i x y hx hy (scals_at hn hx)
 | tup hl _ ih => intro hn; simp only [Go.Ax.scal] at hn; exact .tup hl fun i x y hx hy => ih i x y hx hy (scals_at hn hx)
 | _ => intro hn; simp [Go.Ax.scal] at hn
theorem CallsT.of_frz {h : Hp} {v : AV} {f : FuncId} {args fargs : List AV} (hp : PureC P F f fargs v) (hfr : mapO (frzV 20 h) args = some fargs) (hs : scal v = true) : CallsT P F h (fun u g => u = v ∧ g = h) f args := by
 intro m w n cargs hR hA _
 let K : Nat → Prop := fun b => ∃ r o z, h.get r = some o ∧ o.live = true ∧ m r = some (b, z)
 have dK : ∀ b, Decidable (K b) := fun b => Classical.propDecidable _
 let fz2 : Nat → Option Obj := fun b => @ite _ (K b) (dK b) w.heap[b]? (m.fz b)
 have f1 : ∀ b o, m.fz b = some o → fz2 b = some o := fun b o hb => by
  show @ite _ (K b) (dK b) w.heap[b]? (m.fz b) = some o
  split
  ·exact hR.frz b o (.inr hb)
  ·exact hb
 have f2 : ∀ b o, fz2 b = some o → w.heap[b]? = some o := fun b o hb => by
  have hb : @ite _ (K b) (dK b) w.heap[b]? (m.fz b) = some o := hb
  split at hb
  ·exact hb
  ·exact hR.frz b o (.inr hb)
 have hA' : LRel P F ⟨fun _ => none, fz2⟩ fargs cargs.toList := by
  refine mapO_rel (fun x v y hv hy => frzV_rel (fz := fz2) hR f1 (fun r o b z ob hg hl hm hb => ?_) 20 x v y hv hy) hA hfr
  show @ite _ (K b) (dK b) w.heap[b]? (m.fz b) = some ob
  rw [if_pos ⟨r, o, z, hg, hl, hm⟩]; exact hb
 refine (hp ⟨fun _ => none, fz2⟩ w n cargs (fun b o hb => hb.elim (fun hb => hR.frz b o (.inl hb)) (f2 b o)) hA').mono fun e w' he => ?_
 obtain ⟨cv, fz, rfl, hsm, hz, hold, hfz, hle, hnew, hv⟩ := he
 refine ⟨v, h, ⟨rfl, rfl⟩, .refl _, cv, m, rfl, ⟨⟨fun _ _ h => h, fun _ _ h => h⟩, fun r c h1 h2 => ?_, ⟨fun r o b z hg hm => ?_, hR.inj, hR.out, fun b o hb => ?_, hR.wf⟩, hsm, hz, fun b hb _ => hold b hb, Nat.le_refl _, fun r o' c hg hl _ => ⟨o', hg, hl⟩, fun r b z h1 h2 _ => ?_, fun b o hb => .inl hb⟩, hv.scal hs⟩
 ·rw [h1] at h2; cases h2
 ·have h1 := hR.obj r o b z hg hm
  by_cases hl : o.live = true
  ·rw [hold b (hR.lt hg hl hm)]; exact h1
  ·cases o <;> first | trivial
 ·rw [hold b (hR.flt hb)]; exact hR.frz b o hb
 ·rw [h1] at h2; cases h2
variable {gl : Nat → AV} {K : Knob} {C : Ctx} {n : Nat} {rd : Option Nat} {l l' : Kn} {h h1 : Hp} {ds : List ADef} {s : St} {Q Q' : PQ} {all rest : List Oper}
theorem TO.fcall (hP : POk P F gl K) {g : FuncId} {x : Operand} {aas : Array Operand} {ts : Array TypeId} {d : Nat} {ty : TypeId} {pos : String} {aft : Array Edge} {gd : Option (Nat × Bool)} {first cap vs fargs : List AV} {v : AV}
  (hf : IsFn P g) (hc : PureC P F g fargs v) (hw : wantK all l ⟨some d, .call { callee := .value x, args := aas, argTypes := ts }, ty, pos, aft, gd⟩ = some true) (hb : Nat.blt d n = true)
  (hx : evK (Ctx.of P gl K) l x = some (.fn (.func g) first cap)) (ha : evsK (Ctx.of P gl K) l aas.toList = some vs) (he : mapO (frzV 20 h) (first ++ vs ++ cap) = some fargs) (hs : scal v = true)
  (k : TO P F all rest n rd ((d, v) :: l) h ds Q) : TO P F all (⟨some d, .call { callee := .value x, args := aas, argTypes := ts }, ty, pos, aft, gd⟩ :: rest) n rd l h ds Q :=
 .ucall hP hw hb hx ha hf (.of_frz hc he hs) fun _ _ e => by obtain ⟨rfl, rfl⟩ := e; exact k
def FrzL (h : Hp) (args fargs : List AV) : Prop := mapO (frzV 20 h) args = some fargs
theorem FrzL.nil : FrzL h [] [] := rfl
theorem FrzL.cons {x y : AV} {r fr : List AV} (hx : frzV 20 h x = some y) (hr : FrzL h r fr) : FrzL h (x :: r) (y :: fr) := by
 unfold FrzL mapO
 rw [hx]
 dsimp only
 rw [show mapO (frzV 20 h) r = some fr from hr]
theorem mapO_int {k : Nat} : ∀ (l : List Int), mapO (mapO (frzV (k + 1) h)) (l.map fun n => [AV.int .i64 n]) = some (l.map fun n => [AV.int .i64 n])
  | [] => rfl
  | a :: l => by
    simp only [List.map_cons, mapO, mapO_int l]
    rfl
theorem chunks_ints : ∀ (l : List Int), chunks 1 l.length (l.map (AV.int .i64)) = l.map fun n => [AV.int .i64 n]
  | [] => rfl
  | a :: l => by
    show (List.map (AV.int .i64) (a :: l)).take 1 :: chunks 1 l.length ((List.map (AV.int .i64) (a :: l)).drop 1) = _
    simp [chunks_ints l]
theorem TO.zcall (hP : POk P F gl K) {g : FuncId} {x : Operand} {aas : Array Operand} {ts : Array TypeId} {d : Nat} {ty : TypeId} {pos : String} {aft : Array Edge} {gd : Option (Nat × Bool)} {first cap vs args fargs : List AV} {v : AV}
  (hf : IsFn P g) (hc : PureC P F g fargs v) (hw : wantK all l ⟨some d, .call { callee := .value x, args := aas, argTypes := ts }, ty, pos, aft, gd⟩ = some true) (hb : Nat.blt d n = true)
  (hx : evK (Ctx.of P gl K) l x = some (.fn (.func g) first cap)) (ha : evsK (Ctx.of P gl K) l aas.toList = some vs) (he0 : first ++ vs ++ cap = args) (he : FrzL h args fargs) (hs : scal v = true)
  (k : TO P F all rest n rd ((d, v) :: l) h ds Q) : TO P F all (⟨some d, .call { callee := .value x, args := aas, argTypes := ts }, ty, pos, aft, gd⟩ :: rest) n rd l h ds Q :=
 .fcall hP hf hc hw hb hx ha (by rw [he0]; exact he) hs k
end Go.Ax
noncomputable section
namespace Go.Ax
variable {P : Program} {F : Nat → Option Obj} {gl : Nat → AV} {K : Knob} {C : Ctx} {n : Nat} {rd : Option Nat} {l l' : Kn} {h h1 : Hp} {ds : List ADef} {s : St} {Q Q' : PQ} {all rest : List Oper} {T : List (FuncId × List AV × AV)}
theorem fpOf_congr {s s' : St} {o : Oper} (hev : ∀ x ∈ o.op.operands, s.ev C x = s'.ev C x) : fpOf C s o = fpOf C s' o := by
 unfold fpOf
 cases hop : o.op <;> rw [hop] at hev <;> simp only [Op.operands] at hev
 case slice t x lo hi mx =>
  have h0 : s.ev C x = s'.ev C x := hev x (by simp)
  simp only [h0]
 case call c =>
  have h1 : allA C s c.args.toList = allA C s' c.args.toList := allA_congr fun x hx => hev x (by
   unfold Call.operands
   cases c.callee <;> simp at hx ⊢ <;> simp [hx])
  simp only [h1]
 all_goals first | (simp at hev; simp only [hev]; done)
theorem ldOf_congr {s s' : St} {o : Oper} (hev : ∀ x ∈ o.op.operands, s.ev C x = s'.ev C x) : ldOf C s o = ldOf C s' o := by
 unfold ldOf
 cases hop : o.op <;> rw [hop] at hev <;> simp only [Op.operands] at hev
 all_goals first | (simp at hev; simp only [hev]; done)
def relo (h h1 : Hp) : Hp := { h1 with lo := bif Nat.ble h.lo h1.lo then h.lo else h1.lo }
def Hp.up (h : Hp) : Hp := { h with lo := h.nx }
def oneD (P : Program) (C : Ctx) (l : Kn) (h : Hp) (o : Oper) : Option OpR :=
  match callOf o with
  | some (x, aas) => (match evK C l x, evsK C l aas with
    | some (.fn (.func g) first cap), some vs => (match C.ext g (first ++ vs ++ cap), C.fn.get g, C.orc g (first ++ vs ++ cap) with
      | none, some fn, some v => if fn.body.isSome = true then some (.val v h.up) else none
      | none, some fn, none => if fn.body.isSome = true then (C.prim g (first ++ vs ++ cap) h.up).map (fun x => .val x.1 x.2) else none
      | _, _, _ => none)
    | _, _ => none)
  | none => if knowns l o.op.operands.toList = true then opA P C nix (knSt l h.up) o else none
def runD (P : Program) (C : Ctx) (n : Nat) (all : List Oper) (ms : List Nat) : List Oper → Nat → List FP → Kn → Hp → Option (Kn × Hp)
  | [], _, _, l, h => some (l, h)
  | o :: r, i, fps, l, h => match wantK all l o with
    | none => none
    | some false => (match o.dst with
      | some d => if d < n then runD P C n all ms r (Nat.succ i) fps ((d, .tup []) :: l) h else none
      | none => runD P C n all ms r (Nat.succ i) fps l h)
    | some true => if knowns l o.op.operands.toList = true then (match oneD P C l h o with
      | some (.val v h1) => (match fpNext ms (fpAt C (knSt l h) o i h1) fps with
        | some fps' => (match o.dst with
          | some d => if d < n then runD P C n all ms r (Nat.succ i) fps' ((d, v) :: l) (relo h h1) else none
          | none => runD P C n all ms r (Nat.succ i) fps' l (relo h h1))
        | none => none)
      | _ => none) else none
theorem oneD_op {o : Oper} {v : AV} (hs : Atk s n rd l h ds) (ho : oneD P C l h o = some (.val v h1)) : opA P C nix { s with h := { s.h with lo := s.h.nx } } o = some (.val v h1) := by
 have hh := hs.h
 unfold oneD at ho
 split at ho
 ·rename_i x aas hc
  split at ho
  case h_2 => cases ho
  rename_i g first cap vs hx has
  have hs' : Atk { s with h := { s.h with lo := s.h.nx } } n rd l h.up ds := ⟨hs.n, by rw [hh]; rfl, hs.ds, hs.rd, hs.tm⟩
  unfold callOf at hc
  split at hc
  case h_2 => cases hc
  rename_i c' hop
  split at hc
  case h_2 => cases hc
  rename_i f' hcal
  cases hc
  split at ho
  case h_3 => cases ho
  ·rename_i fn v' hext hfn horc
   split at ho
   case isFalse => cases ho
   rename_i hbody
   cases ho
   obtain ⟨c, hb⟩ := Option.isSome_iff_exists.1 hbody
   unfold opA
   rw [hop]
   dsimp only
   rw [hcal]
   dsimp only
   rw [hs'.ev hx, hs'.evs has]
   unfold applyF
   dsimp only
   rw [hext]
   dsimp only
   unfold callF
   rw [hfn]; dsimp only; rw [hb]; dsimp only; rw [horc, hh]
   rfl
  ·rename_i fn hext hfn horc
   split at ho
   case isFalse => cases ho
   rename_i hbody
   obtain ⟨c, hb⟩ := Option.isSome_iff_exists.1 hbody
   obtain ⟨y, hy, he⟩ := Option.map_eq_some_iff.1 ho
   cases he
   have hup : ({ s.h with lo := s.h.nx } : Hp) = h.up := by rw [hh]; rfl
   unfold opA
   rw [hop]
   dsimp only
   rw [hcal]
   dsimp only
   rw [hs'.ev hx, hs'.evs has]
   unfold applyF
   dsimp only
   rw [hext]
   dsimp only
   unfold callF
   rw [hfn]; dsimp only; rw [hb]; dsimp only; rw [horc, hup, hy]
 ·split at ho
  case isFalse => cases ho
  rename_i hk
  have hs' : Atk { s with h := { s.h with lo := s.h.nx } } n rd l h.up ds := ⟨hs.n, by rw [hh]; rfl, hs.ds, hs.rd, hs.tm⟩
  rw [opA_congr (s' := knSt l h.up) hs'.h (fun x hx => knowns_ev hs' hk x (by simpa using hx))]
  exact ho
theorem runD_draw {ms : List Nat} : ∀ (rest : List Oper) (i : Nat) (fps : List FP) (l : Kn) (h : Hp) (s : St) (l' : Kn) (h' : Hp), Atk s n rd l h ds → runD P C n all ms rest i fps l h = some (l', h') →
    ∃ s1, runDraw P C nix all ms rest i fps s = some (.normal, s1) ∧ Atk s1 n rd l' h' ds
  | [], i, fps, l, h, s, l', h', hs, hr => by cases hr; exact ⟨s, rfl, hs⟩
  | o :: r, i, fps, l, h, s, l', h', hs, hr => by
    have hh := hs.h
    unfold runD at hr
    unfold runDraw
    split at hr
    · cases hr
    · rename_i hw
      rw [hs.want hw]
      dsimp only
      split at hr
      · rename_i d hd
        split at hr
        case isFalse => cases hr
        rename_i hdn
        obtain ⟨s2, hp, hs2⟩ := hs.put (d := d) (Nat.ble_eq_true_of_le hdn) (.tup []) h
        rw [hd, hh, hp]
        exact runD_draw r _ fps _ _ s2 l' h' hs2 hr
      · rename_i hd
        obtain ⟨s2, hp, hs2⟩ := hs.put0 (.tup []) h
        rw [hd, hh, hp]
        exact runD_draw r _ fps _ _ s2 l' h' hs2 hr
    · rename_i hw
      rw [hs.want hw]
      dsimp only
      split at hr
      case isFalse => cases hr
      rename_i hk
      split at hr
      case h_2 => cases hr
      rename_i v h1 ho
      rw [oneD_op hs ho]
      dsimp only
      have hev : ∀ x ∈ o.op.operands, s.ev C x = (knSt l h).ev C x := fun x hx => knowns_ev hs hk x (by simpa using hx)
      have hfp : fpAt C s o i h1 = fpAt C (knSt l h) o i h1 := by
        unfold fpAt
        rw [fpOf_congr hev, ldOf_congr hev, hh]
        rfl
      rw [hfp]
      split at hr
      case h_2 => cases hr
      rename_i fps' hf
      rw [hf]
      dsimp only
      have he : ({ nx := h1.nx, m := h1.m, lo := bif Nat.ble s.h.lo h1.lo then s.h.lo else h1.lo } : Hp) = relo h h1 := by rw [hh]; rfl
      split at hr
      · rename_i d hd
        split at hr
        case isFalse => cases hr
        rename_i hdn
        obtain ⟨s2, hp, hs2⟩ := hs.put (d := d) (Nat.ble_eq_true_of_le hdn) v (relo h h1)
        rw [hd, he, hp]
        exact runD_draw r _ fps' _ _ s2 l' h' hs2 hr
      · rename_i hd
        obtain ⟨s2, hp, hs2⟩ := hs.put0 v (relo h h1)
        rw [hd, he, hp]
        exact runD_draw r _ fps' _ _ s2 l' h' hs2 hr
theorem TW.drawD (hP : POk P F gl K) {id : Nat} {ops : Array Oper} (T : List (FuncId × List AV × AV)) (hT : ∀ e ∈ T, PureC P F e.1 e.2.1 e.2.2) (ms : List Nat) (hms : masks [] ops.toList = ms) (hok : drawOk ops.toList ops.toList ms 0 [] = true) {r : Option (Kn × Hp)}
    (hr : runD P (Ctx.of P gl (K.tell T)) n ops.toList ms ops.toList 0 [] l h.z = r) (hg : match r with | some (l', h') => Q .normal l' h' ds | none => False) : TW P F (.region id ops true) n rd l h ds Q := by
  refine TW.z fun s hs m a w fe k hrel ha hf hF => ?_
  cases r with
  | none => exact False.elim hg
  | some x =>
    obtain ⟨l', h'⟩ := x
    subst hms
    have hP' := pok_tell hP hT
    obtain ⟨s1, h1, h2⟩ := runD_draw (ms := masks [] ops.toList) ops.toList 0 [] l h.z s l' h' hs hr
    have hd : drawF P (Ctx.of P gl (K.tell T)) nix ops.toList (masks [] ops.toList) s = some (.normal, s1) := by
      unfold drawF
      rw [hok]; exact h1
    obtain ⟨g1, g2, g3, g4⟩ := draw_rel hP' nix nix_sound ops s _ s1 hd
    have hh := hs.h
    have hrd := hs.rd
    rw [hh, hrd] at g4
    refine wpIn_mono (g4 m a w fe k id hrel ha hf fun r h3 _ => hF r h3) fun x a' w' hp => ?_
    exact ⟨_, s1, l', h', ds, hg, h2, by rw [← h2.h]; rw [hh] at g1; exact g1, hp⟩
theorem up_get {h : Hp} {r : Nat} : h.up.get r = h.get r := rfl
theorem up_nx {h : Hp} : h.up.nx = h.nx := rfl
theorem up_lo {h : Hp} : h.up.lo = h.nx := rfl
theorem relo_z {h h1 : Hp} : relo h.z h1 = h1.z := by
 unfold relo Hp.z
 rfl
attribute [simp] up_get up_nx up_lo relo_z
attribute [irreducible] Hp.up relo
end Go.Ax
noncomputable section
namespace Go.Ax
variable {P : Program} {F : Nat → Option Obj} {gl : Nat → AV} {K : Knob} {C : Ctx} {n : Nat} {rd : Option Nat} {l l' : Kn} {h h1 : Hp} {ds : List ADef} {s : St} {Q Q' : PQ} {all rest : List Oper} {T : List (FuncId × List AV × AV)}
def valQ (P : Program) (C : Ctx) (l : Kn) (h : Hp) (o : Oper) : Option AV :=
  match callOf o with
  | some (x, aas) => (match evK C l x, evsK C l aas with
    | some (.fn (.func g) first cap), some vs => (match C.ext g (first ++ vs ++ cap), C.fn.get g, C.orc g (first ++ vs ++ cap) with
      | none, some fn, some v => if fn.body.isSome = true then some v else none
      | _, _, _ => none)
    | _, _ => none)
  | none => if quietOp o = true then (if knowns l o.op.operands.toList = true then (match opA P C nix (knSt l h) o with
      | some (.val v _) => some v
      | _ => none) else none) else none
def putQ (P : Program) (C : Ctx) (n : Nat) (all r : List Oper) (d : Option Nat) (l : Kn) (h : Hp) : Option AV → Option Kn
  | some v => (match d with
    | some d => if d < n then runQ P C n all r ((d, v) :: l) h else none
    | none => runQ P C n all r l h)
  | none => none
def contQ (P : Program) (C : Ctx) (n : Nat) (all : List Oper) (b : Bool) (o : Oper) (r : List Oper) (l : Kn) (h : Hp) : Option Kn :=
 bif b then putQ P C n all r o.dst l h (valQ P C l h o) else putQ P C n all r o.dst l h (some (.tup []))
def wQ (P : Program) (C : Ctx) (n : Nat) (all : List Oper) (w : Option Bool) (o : Oper) (r : List Oper) (l : Kn) (h : Hp) : Option Kn :=
 match w with
 | none => none
 | some b => contQ P C n all b o r l h
theorem runQ_nil : runQ P C n all [] l h = some l := Eq.trans rfl rfl
theorem runQ_cons {o : Oper} {r : List Oper} : runQ P C n all (o :: r) l h = wQ P C n all (wantK all l o) o r l h := by
  rw [runQ]
  unfold wQ
  cases hw : wantK all l o with
  | none => rfl
  | some b =>
    cases b with
    | false => rfl
    | true =>
      show _ = putQ P C n all r o.dst l h (valQ P C l h o)
      unfold valQ
      dsimp only
      cases hc : callOf o with
      | some x =>
        obtain ⟨x, aas⟩ := x
        dsimp only
        generalize evK C l x = a
        generalize evsK C l aas = b
        rcases a with _ | a
        · rfl
        rcases b with _ | b
        · cases a <;> first | rfl | (rename_i f _ _; cases f <;> rfl)
        cases a <;> try rfl
        rename_i f fi ca
        cases f <;> try rfl
        rename_i g
        dsimp only
        generalize C.ext g (fi ++ b ++ ca) = a1
        generalize C.fn.get g = a2
        generalize C.orc g (fi ++ b ++ ca) = a3
        rcases a1 with _ | a1 <;> rcases a2 with _ | a2 <;> rcases a3 with _ | a3 <;> try rfl
        dsimp only
        split <;> rfl
      | none =>
        dsimp only
        split
        · split
          · generalize opA P C nix (knSt l h) o = a
            rcases a with _ | a
            · rfl
            cases a <;> rfl
          · rfl
        · rfl
theorem wQ_some {b : Bool} {o : Oper} {r : List Oper} : wQ P C n all (some b) o r l h = contQ P C n all b o r l h := Eq.trans rfl rfl
theorem contQ_true {o : Oper} {r : List Oper} : contQ P C n all true o r l h = putQ P C n all r o.dst l h (valQ P C l h o) := Eq.trans rfl rfl
theorem putQ_dst {r : List Oper} {d : Nat} {v : AV} : putQ P C n all r (some d) l h (some v) = if d < n then runQ P C n all r ((d, v) :: l) h else none := Eq.trans rfl rfl
def okQ (Q : PQ) (h : Hp) (ds : List ADef) : Option Kn → Prop
 | some l' => Q .normal l' h ds
 | none => False
theorem TW.drawG (hP : POk P F gl K) {id : Nat} {ops : Array Oper} (T : List (FuncId × List AV × AV)) (hT : ∀ e ∈ T, PureC P F e.1 e.2.1 e.2.2) (hok : drawOk ops.toList ops.toList (masks [] ops.toList) 0 [] = true) {r : Option Kn}
  (hr : runQ P (Ctx.of P gl (K.tell T)) n ops.toList ops.toList l h.z = r) (hg : okQ Q h.z ds r) : TW P F (.region id ops true) n rd l h ds Q :=
 TW.drawQ hP T hT hok hr (by cases r <;> exact hg)
theorem okQ_guard {b : Bool} {o : Oper} {r : List Oper} {g : Hp} (ht : b = true → okQ Q g ds (contQ P C n all true o r l h)) (hf : b = false → okQ Q g ds (contQ P C n all false o r l h)) : okQ Q g ds (contQ P C n all b o r l h) := by
 cases b with
 | true => exact ht rfl
 | false => exact hf rfl
theorem okQ_eq {x r : Option Kn} {g : Hp} (hr : x = r) (hg : okQ Q g ds r) : okQ Q g ds x := by subst hr; exact hg
def dFp (P : Program) (C : Ctx) (n : Nat) (all : List Oper) (ms : List Nat) (r : List Oper) (i : Nat) (d : Option Nat) (l : Kn) (v : AV) (h : Hp) : Option (List FP) → Option (Kn × Hp)
  | some fps' => (match d with
    | some d => if d < n then runD P C n all ms r (Nat.succ i) fps' ((d, v) :: l) h else none
    | none => runD P C n all ms r (Nat.succ i) fps' l h)
  | none => none
def dPut (P : Program) (C : Ctx) (n : Nat) (all : List Oper) (ms : List Nat) (o : Oper) (r : List Oper) (i : Nat) (fps : List FP) (l : Kn) (h : Hp) : Option OpR → Option (Kn × Hp)
 | some (.val v h1) => dFp P C n all ms r i o.dst l v (relo h h1) (fpNext ms (fpAt C (knSt l h) o i h1) fps)
 | _ => none
def dCont (P : Program) (C : Ctx) (n : Nat) (all : List Oper) (ms : List Nat) (b : Bool) (o : Oper) (r : List Oper) (i : Nat) (fps : List FP) (l : Kn) (h : Hp) : Option (Kn × Hp) :=
 bif b then (if knowns l o.op.operands.toList = true then dPut P C n all ms o r i fps l h (oneD P C l h o) else none) else dFp P C n all ms r i o.dst l (.tup []) h (some fps)
def dW (P : Program) (C : Ctx) (n : Nat) (all : List Oper) (ms : List Nat) (w : Option Bool) (o : Oper) (r : List Oper) (i : Nat) (fps : List FP) (l : Kn) (h : Hp) : Option (Kn × Hp) :=
 match w with
 | none => none
 | some b => dCont P C n all ms b o r i fps l h
variable {ms : List Nat} {fps : List FP} {i : Nat}
theorem runD_nil : runD P C n all ms [] i fps l h = some (l, h) := Eq.trans rfl rfl
theorem runD_cons {o : Oper} {r : List Oper} : runD P C n all ms (o :: r) i fps l h = dW P C n all ms (wantK all l o) o r i fps l h := by
  rw [runD]
  unfold dW
  cases hw : wantK all l o with
  | none => rfl
  | some b =>
    cases b with
    | false =>
      show _ = dFp P C n all ms r i o.dst l (.tup []) h (some fps)
      unfold dFp
      dsimp only
      cases o.dst <;> rfl
    | true =>
      show _ = (if knowns l o.op.operands.toList = true then dPut P C n all ms o r i fps l h (oneD P C l h o) else none)
      dsimp only
      split
      · generalize oneD P C l h o = a
        rcases a with _ | a
        · rfl
        cases a <;> rfl
      · rfl
theorem dW_some {b : Bool} {o : Oper} {r : List Oper} : dW P C n all ms (some b) o r i fps l h = dCont P C n all ms b o r i fps l h := Eq.trans rfl rfl
theorem dCont_true {o : Oper} {r : List Oper} : dCont P C n all ms true o r i fps l h = if knowns l o.op.operands.toList = true then dPut P C n all ms o r i fps l h (oneD P C l h o) else none := Eq.trans rfl rfl
theorem dPut_val {o : Oper} {r : List Oper} {v : AV} : dPut P C n all ms o r i fps l h (some (.val v h1)) = dFp P C n all ms r i o.dst l v (relo h h1) (fpNext ms (fpAt C (knSt l h) o i h1) fps) := Eq.trans rfl rfl
theorem dFp_dst {r : List Oper} {d : Nat} {v : AV} {fps' : List FP} : dFp P C n all ms r i (some d) l v h (some fps') = if d < n then runD P C n all ms r (Nat.succ i) fps' ((d, v) :: l) h else none := Eq.trans rfl rfl
theorem dFp_none {r : List Oper} {v : AV} {fps' : List FP} : dFp P C n all ms r i none l v h (some fps') = runD P C n all ms r (Nat.succ i) fps' l h := Eq.trans rfl rfl
def okD (Q : PQ) (ds : List ADef) : Option (Kn × Hp) → Prop
 | some x => Q .normal x.1 x.2 ds
 | none => False
theorem TW.drawH (hP : POk P F gl K) {id : Nat} {ops : Array Oper} (T : List (FuncId × List AV × AV)) (hT : ∀ e ∈ T, PureC P F e.1 e.2.1 e.2.2) (ms : List Nat) (hms : masks [] ops.toList = ms) (hok : drawOk ops.toList ops.toList ms 0 [] = true) {r : Option (Kn × Hp)}
  (hr : runD P (Ctx.of P gl (K.tell T)) n ops.toList ms ops.toList 0 [] l h.z = r) (hg : okD Q ds r) : TW P F (.region id ops true) n rd l h ds Q :=
 TW.drawD hP T hT ms hms hok hr (by cases r <;> exact hg)
theorem okD_guard {b : Bool} {o : Oper} {r : List Oper} (ht : b = true → okD Q ds (dCont P C n all ms true o r i fps l h)) (hf : b = false → okD Q ds (dCont P C n all ms false o r i fps l h)) : okD Q ds (dCont P C n all ms b o r i fps l h) := by
 cases b with
 | true => exact ht rfl
 | false => exact hf rfl
theorem okD_eq {x r : Option (Kn × Hp)} (hr : x = r) (hg : okD Q ds r) : okD Q ds x := by subst hr; exact hg
attribute [simp] runQ_nil runQ_cons wQ_some contQ_true putQ_dst valQ callOf quietOp runD_nil runD_cons dW_some dCont_true dPut_val dFp_dst dFp_none
attribute [irreducible] contQ putQ wQ dCont dPut dFp dW
end Go.Ax
noncomputable section
namespace Go.Ax
inductive Sl (α : Type) where
 | nil
 | mk (l : List α)
def Sl.list {α : Type} : Sl α → List α
 | .nil => []
 | .mk l => l
def isSlT : Option TI → Bool
 | some ti => (match ti.desc with | .slice _ => true | _ => false)
 | none => false
def Sl.av {α : Type} (e : α → List AV) : Sl α → AV
 | .nil => .nilsl
 | .mk l => .isl (l.map e)
def i64 (n : Int) : AV := .int .i64 n
def cI (n : Int) : List AV := [.int .i64 n]
structure LEnd where
 kind : Int
 a : Int
 to : Int
 els : Int
structure LIns where
 op : Int
 type : Int
 a : Int
 b : Int
 n : Int
 args : Sl Int
 frm : Sl Int
structure LBlock where
 ins : Sl LIns
 ed : LEnd
structure LFunc where
 sig : Int
 blocks : Sl LBlock
structure LType where
 kind : Int
 elem : Int
 many : Int
 parts : Sl Int
structure LProg where
 types : Sl LType
 funcs : Sl LFunc
def LEnd.cells (x : LEnd) : List AV := [.int .u8 x.kind, .int .i64 x.a, .int .i64 x.to, .int .i64 x.els]
def LIns.cells (x : LIns) : List AV := [.int .u8 x.op, .int .i64 x.type, .int .i64 x.a, .int .i64 x.b, .int .i64 x.n, x.args.av cI, x.frm.av cI]
def LBlock.cells (x : LBlock) : List AV := x.ins.av LIns.cells :: x.ed.cells
def LFunc.cells (x : LFunc) : List AV := [.int .i64 x.sig, x.blocks.av LBlock.cells]
theorem lenA_av {α : Type} {e : α → List AV} (x : Sl α) : lenA (x.av e) = some x.list.length := by cases x <;> simp [Sl.av, Sl.list, lenA]
theorem av_pos {α : Type} {e : α → List AV} {x : Sl α} (h : 0 < x.list.length) : x.av e = .isl (x.list.map e) := by
 cases x with
 | nil => simp [Sl.list] at h
 | mk l => rfl
theorem len_av {α : Type} {e : α → List AV} {C : Ctx} {t : TypeId} {h : Hp} (x : Sl α) (ht : isSlT (C.ti t) = true) : lenOfA C t (x.av e) h = some (.int .i64 x.list.length) := by
  unfold lenOfA
  cases hx : C.ti t with
  | none => rw [hx] at ht; cases ht
  | some ti =>
    rw [hx] at ht
    unfold isSlT at ht
    dsimp only at ht ⊢
    split at ht
    · rename_i e' hd
      rw [hd]
      have := lenA_av (e := e) x
      cases x <;> (dsimp only [Sl.av] at this ⊢; rw [this]; rfl)
    · cases ht
theorem len_av2 {α : Type} {e : α → List AV} {C : Ctx} {t : TypeId} {h : Hp} (x : Sl α) : lenOfA C t (x.av e) h = if isSlT (C.ti t) = true then some (.int .i64 x.list.length) else lenOfA C t (x.av e) h := by
 split
 ·rename_i ht; exact len_av x ht
 ·rfl
theorem len_of {C : Ctx} {t : TypeId} {h : Hp} {v : AV} {k : Nat} (hv : lenA v = some k) (hs : ∀ s, v ≠ .str s) : lenOfA C t v h = if isSlT (C.ti t) = true then some (.int .i64 k) else lenOfA C t v h := by
  split
  · rename_i ht
    unfold lenOfA
    cases hx : C.ti t with
    | none => rw [hx] at ht; cases ht
    | some ti =>
      rw [hx] at ht
      unfold isSlT at ht
      dsimp only at ht ⊢
      split at ht
      · rename_i e' hd
        rw [hd]
        cases v <;> first | exact absurd rfl (hs _) | (dsimp only; rw [hv]; rfl)
      · cases ht
  · rfl
theorem len_isl {C : Ctx} {t : TypeId} {h : Hp} {xs : List (List AV)} : lenOfA C t (.isl xs) h = if isSlT (C.ti t) = true then some (.int .i64 xs.length) else lenOfA C t (.isl xs) h := len_of rfl nofun
theorem len_nilsl {C : Ctx} {t : TypeId} {h : Hp} : lenOfA C t .nilsl h = if isSlT (C.ti t) = true then some (.int .i64 (0 : Nat)) else lenOfA C t .nilsl h := len_of rfl nofun
attribute [simp] len_isl len_nilsl
theorem isCell_av {α : Type} {e : α → List AV} (x : Sl α) : isCell (x.av e) = true := by cases x <;> rfl
theorem cellsOf_av {α : Type} {e : α → List AV} (x : Sl α) : cellsOf (x.av e) = some [x.av e] := by cases x <;> rfl
attribute [simp] isCell_av cellsOf_av LFunc.cells LBlock.cells LEnd.cells LIns.cells len_av2 isSlT
theorem ti_of {P : Program} {gl : Nat → AV} {K : Knob} {t : TypeId} (ht : Nat.blt t P.types.size = true) : (Ctx.of P gl K).ti t = mkTI P t := by
 unfold Ctx.ti
 simp only [Ctx.of]
 rw [trOf_get, if_pos (show t < P.types.size from Nat.le_of_ble_eq_true ht)]
 cases mkTI P t <;> rfl
def LType.cells (x : LType) : List AV := [.int .u8 x.kind, .int .i64 x.elem, .int .i64 x.many, x.parts.av cI]
def LProg.cells (x : LProg) : List AV := [x.types.av LType.cells, x.funcs.av LFunc.cells]
attribute [simp] LType.cells LProg.cells cI
theorem noRef_av {α : Type} {e : α → List AV} (he : ∀ x, noRefs (e x) = true) (x : Sl α) : noRef (x.av e) = true := by
  cases x with
  | nil => rfl
  | mk l =>
    show noRefss (l.map e) = true
    induction l with
    | nil => rfl
    | cons a l ih => show (noRefs (e a) && noRefss (l.map e)) = true; rw [he a, ih]; rfl
theorem nr_nil : noRefs [] = true := rfl
theorem nr_cons {v : AV} {l : List AV} : noRefs (v :: l) = (noRef v && noRefs l) := rfl
theorem nr_int {k : IntKind} {n : Int} : noRef (.int k n) = true := rfl
theorem nr_bool {b : Bool} : noRef (.bool b) = true := rfl
theorem nr_agg {l : List AV} : noRef (.agg l) = noRefs l := rfl
theorem nr_ints (x : Sl Int) : noRef (x.av cI) = true := noRef_av (fun _ => rfl) x
theorem nr_ins (x : LIns) : noRefs x.cells = true := by simp [LIns.cells, nr_cons, nr_int, nr_ints, nr_nil]
theorem nr_inss (x : Sl LIns) : noRef (x.av LIns.cells) = true := noRef_av nr_ins x
theorem nr_block (x : LBlock) : noRefs x.cells = true := by simp [LBlock.cells, LEnd.cells, nr_cons, nr_int, nr_inss, nr_nil]
theorem nr_blocks (x : Sl LBlock) : noRef (x.av LBlock.cells) = true := noRef_av nr_block x
theorem nr_func (x : LFunc) : noRefs x.cells = true := by simp [LFunc.cells, nr_cons, nr_int, nr_blocks, nr_nil]
theorem nr_funcs (x : Sl LFunc) : noRef (x.av LFunc.cells) = true := noRef_av nr_func x
theorem nr_type (x : LType) : noRefs x.cells = true := by simp [LType.cells, nr_cons, nr_int, nr_ints, nr_nil]
theorem nr_types (x : Sl LType) : noRef (x.av LType.cells) = true := noRef_av nr_type x
attribute [simp] nr_nil nr_cons nr_int nr_bool nr_agg nr_ints nr_inss nr_blocks nr_funcs nr_types
theorem fn_of {P : Program} {gl : Nat → AV} {K : Knob} {f : FuncId} : (Ctx.of P gl K).fn.get f = P.funcs[f]? := by
 simp only [Ctx.of]
 rw [trOf_get]
 split
 ·cases P.funcs[f]? <;> rfl
 ·rename_i h
  rw [Tr.get_e, eq_comm, Array.getElem?_eq_none]
  omega
theorem orc_of {P : Program} {gl : Nat → AV} {K : Knob} : (Ctx.of P gl K).orc = K.orc := rfl
theorem ext_of {P : Program} {gl : Nat → AV} {K : Knob} : (Ctx.of P gl K).ext = K.ext := rfl
theorem tell_ext {K : Knob} {T : List (FuncId × List AV × AV)} : (K.tell T).ext = K.ext := rfl
theorem tell_orc {K : Knob} {T : List (FuncId × List AV × AV)} : (K.tell T).orc = orcT K T := rfl
attribute [simp] orc_of ext_of tell_ext tell_orc orcT
theorem rdI_av (h : Hp) (x : Sl Int) : RdI h (x.av cI) x.list := by
 cases x with
 | nil => exact .inl ⟨rfl, rfl⟩
 | mk l => exact .inr (.inl rfl)
end Go.Ax
noncomputable section
namespace Go.Ax
open Go.Proofs
abbrev T_ints : TypeId := 26
abbrev T_int : TypeId := 3
abbrev T_types : TypeId := 22
abbrev T_type : TypeId := 97
abbrev T_prog : TypeId := 25
abbrev T_end : TypeId := 47
abbrev T_funcs : TypeId := 23
abbrev T_func : TypeId := 43
abbrev T_blocks : TypeId := 41
abbrev T_block : TypeId := 49
abbrev T_inss : TypeId := 45
abbrev T_ins : TypeId := 52
abbrev N_fescuelaw27_TidySwaps : FuncId := 4
theorem E_fescuelaw27_TidySwaps : Tryz.prog.funcs[N_fescuelaw27_TidySwaps]? = some Tryz.f4 := Tryz.func4
abbrev N_fescueref06_Great : FuncId := 5
theorem E_fescueref06_Great : Tryz.prog.funcs[N_fescueref06_Great]? = some Tryz.f5 := Tryz.func5
theorem I_fescueref06_Great : IsFn Tryz.prog N_fescueref06_Great := ⟨_, _, Tryz.func5, rfl⟩
abbrev N_tidy_Swap : FuncId := 9
theorem E_tidy_Swap : Tryz.prog.funcs[N_tidy_Swap]? = some Tryz.f9 := Tryz.func9
theorem I_tidy_Swap : IsFn Tryz.prog N_tidy_Swap := ⟨_, _, Tryz.func9, rfl⟩
abbrev N_fescuelaw27_alive : FuncId := 14
theorem I_fescuelaw27_alive : IsFn Tryz.prog N_fescuelaw27_alive := ⟨_, _, Tryz.func14, rfl⟩
abbrev N_shape_Same : FuncId := 15
theorem E_shape_Same : Tryz.prog.funcs[N_shape_Same]? = some Tryz.f15 := Tryz.func15
theorem I_shape_Same : IsFn Tryz.prog N_shape_Same := ⟨_, _, Tryz.func15, rfl⟩
abbrev N_shape_Ends : FuncId := 16
theorem E_shape_Ends : Tryz.prog.funcs[N_shape_Ends]? = some Tryz.f16 := Tryz.func16
theorem I_shape_Ends : IsFn Tryz.prog N_shape_Ends := ⟨_, _, Tryz.func16, rfl⟩
abbrev N_shape_Uses : FuncId := 17
theorem E_shape_Uses : Tryz.prog.funcs[N_shape_Uses]? = some Tryz.f17 := Tryz.func17
theorem I_shape_Uses : IsFn Tryz.prog N_shape_Uses := ⟨_, _, Tryz.func17, rfl⟩
abbrev N_shape_Check : FuncId := 18
theorem E_shape_Check : Tryz.prog.funcs[N_shape_Check]? = some Tryz.f18 := Tryz.func18
theorem I_shape_Check : IsFn Tryz.prog N_shape_Check := ⟨_, _, Tryz.func18, rfl⟩
abbrev N_fescueref03_Great : FuncId := 19
theorem E_fescueref03_Great : Tryz.prog.funcs[N_fescueref03_Great]? = some Tryz.f19 := Tryz.func19
theorem I_fescueref03_Great : IsFn Tryz.prog N_fescueref03_Great := ⟨_, _, Tryz.func19, rfl⟩
abbrev N_tidy_of : FuncId := 22
theorem E_tidy_of : Tryz.prog.funcs[N_tidy_of]? = some Tryz.f22 := Tryz.func22
theorem I_tidy_of : IsFn Tryz.prog N_tidy_of := ⟨_, _, Tryz.func22, rfl⟩
abbrev N_tidy_function_many : FuncId := 26
theorem E_tidy_function_many : Tryz.prog.funcs[N_tidy_function_many]? = some Tryz.f26 := Tryz.func26
theorem I_tidy_function_many : IsFn Tryz.prog N_tidy_function_many := ⟨_, _, Tryz.func26, rfl⟩
abbrev N_slices_ContainsFunc_int_int : FuncId := 27
theorem E_slices_ContainsFunc_int_int : Tryz.prog.funcs[N_slices_ContainsFunc_int_int]? = some Tryz.f27 := Tryz.func27
theorem I_slices_ContainsFunc_int_int : IsFn Tryz.prog N_slices_ContainsFunc_int_int := ⟨_, _, Tryz.func27, rfl⟩
abbrev N_tidy_function_turn : FuncId := 38
theorem E_tidy_function_turn : Tryz.prog.funcs[N_tidy_function_turn]? = some Tryz.f38 := Tryz.func38
theorem I_tidy_function_turn : IsFn Tryz.prog N_tidy_function_turn := ⟨_, _, Tryz.func38, rfl⟩
abbrev N_tidy_Swap_1 : FuncId := 39
theorem E_tidy_Swap_1 : Tryz.prog.funcs[N_tidy_Swap_1]? = some Tryz.f39 := Tryz.func39
abbrev N_shape_Same_1 : FuncId := 44
theorem E_shape_Same_1 : Tryz.prog.funcs[N_shape_Same_1]? = some Tryz.f44 := Tryz.func44
theorem I_shape_Same_1 : IsFn Tryz.prog N_shape_Same_1 := ⟨_, _, Tryz.func44, rfl⟩
abbrev N_slices_Equal_int_int : FuncId := 45
theorem E_slices_Equal_int_int : Tryz.prog.funcs[N_slices_Equal_int_int]? = some Tryz.f45 := Tryz.func45
theorem I_slices_Equal_int_int : IsFn Tryz.prog N_slices_Equal_int_int := ⟨_, _, Tryz.func45, rfl⟩
abbrev N_shape_Same_2 : FuncId := 46
theorem E_shape_Same_2 : Tryz.prog.funcs[N_shape_Same_2]? = some Tryz.f46 := Tryz.func46
theorem I_shape_Same_2 : IsFn Tryz.prog N_shape_Same_2 := ⟨_, _, Tryz.func46, rfl⟩
abbrev N_slices_EqualFunc_api_Ins_api_Ins_api_Ins_api_Ins : FuncId := 47
theorem E_slices_EqualFunc_api_Ins_api_Ins_api_Ins_api_Ins : Tryz.prog.funcs[N_slices_EqualFunc_api_Ins_api_Ins_api_Ins_api_Ins]? = some Tryz.f47 := Tryz.func47
theorem I_slices_EqualFunc_api_Ins_api_Ins_api_Ins_api_Ins : IsFn Tryz.prog N_slices_EqualFunc_api_Ins_api_Ins_api_Ins_api_Ins := ⟨_, _, Tryz.func47, rfl⟩
abbrev N_shape_Same_3 : FuncId := 48
theorem E_shape_Same_3 : Tryz.prog.funcs[N_shape_Same_3]? = some Tryz.f48 := Tryz.func48
theorem I_shape_Same_3 : IsFn Tryz.prog N_shape_Same_3 := ⟨_, _, Tryz.func48, rfl⟩
abbrev N_slices_EqualFunc_api_Block_api_Block_api_Block_api_Block : FuncId := 49
theorem E_slices_EqualFunc_api_Block_api_Block_api_Block_api_Block : Tryz.prog.funcs[N_slices_EqualFunc_api_Block_api_Block_api_Block_api_Block]? = some Tryz.f49 := Tryz.func49
theorem I_slices_EqualFunc_api_Block_api_Block_api_Block_api_Block : IsFn Tryz.prog N_slices_EqualFunc_api_Block_api_Block_api_Block_api_Block := ⟨_, _, Tryz.func49, rfl⟩
abbrev N_types_Same : FuncId := 50
theorem E_types_Same : Tryz.prog.funcs[N_types_Same]? = some Tryz.f50 := Tryz.func50
theorem I_types_Same : IsFn Tryz.prog N_types_Same := ⟨_, _, Tryz.func50, rfl⟩
abbrev N_slices_EqualFunc_api_Func_api_Func_api_Func_api_Func : FuncId := 51
theorem E_slices_EqualFunc_api_Func_api_Func_api_Func_api_Func : Tryz.prog.funcs[N_slices_EqualFunc_api_Func_api_Func_api_Func_api_Func]? = some Tryz.f51 := Tryz.func51
theorem I_slices_EqualFunc_api_Func_api_Func_api_Func_api_Func : IsFn Tryz.prog N_slices_EqualFunc_api_Func_api_Func_api_Func_api_Func := ⟨_, _, Tryz.func51, rfl⟩
abbrev N_shape_of : FuncId := 52
theorem E_shape_of : Tryz.prog.funcs[N_shape_of]? = some Tryz.f52 := Tryz.func52
theorem I_shape_of : IsFn Tryz.prog N_shape_of := ⟨_, _, Tryz.func52, rfl⟩
abbrev N_types_Check : FuncId := 53
theorem E_types_Check : Tryz.prog.funcs[N_types_Check]? = some Tryz.f53 := Tryz.func53
theorem I_types_Check : IsFn Tryz.prog N_types_Check := ⟨_, _, Tryz.func53, rfl⟩
abbrev N_shape_below : FuncId := 54
theorem E_shape_below : Tryz.prog.funcs[N_shape_below]? = some Tryz.f54 := Tryz.func54
theorem I_shape_below : IsFn Tryz.prog N_shape_below := ⟨_, _, Tryz.func54, rfl⟩
abbrev N_slices_ContainsFunc_api_Func_api_Func : FuncId := 55
theorem E_slices_ContainsFunc_api_Func_api_Func : Tryz.prog.funcs[N_slices_ContainsFunc_api_Func_api_Func]? = some Tryz.f55 := Tryz.func55
theorem I_slices_ContainsFunc_api_Func_api_Func : IsFn Tryz.prog N_slices_ContainsFunc_api_Func_api_Func := ⟨_, _, Tryz.func55, rfl⟩
abbrev N_shape_Check_1 : FuncId := 56
theorem E_shape_Check_1 : Tryz.prog.funcs[N_shape_Check_1]? = some Tryz.f56 := Tryz.func56
theorem I_shape_Check_1 : IsFn Tryz.prog N_shape_Check_1 := ⟨_, _, Tryz.func56, rfl⟩
abbrev N_shape_function : FuncId := 57
theorem E_shape_function : Tryz.prog.funcs[N_shape_function]? = some Tryz.f57 := Tryz.func57
theorem I_shape_function : IsFn Tryz.prog N_shape_function := ⟨_, _, Tryz.func57, rfl⟩
abbrev N_shape_Regs : FuncId := 58
theorem E_shape_Regs : Tryz.prog.funcs[N_shape_Regs]? = some Tryz.f58 := Tryz.func58
theorem I_shape_Regs : IsFn Tryz.prog N_shape_Regs := ⟨_, _, Tryz.func58, rfl⟩
abbrev N_shape_Twin : FuncId := 59
theorem E_shape_Twin : Tryz.prog.funcs[N_shape_Twin]? = some Tryz.f59 := Tryz.func59
theorem I_shape_Twin : IsFn Tryz.prog N_shape_Twin := ⟨_, _, Tryz.func59, rfl⟩
abbrev N_tidy_function_each : FuncId := 63
theorem E_tidy_function_each : Tryz.prog.funcs[N_tidy_function_each]? = some Tryz.f63 := Tryz.func63
theorem I_tidy_function_each : IsFn Tryz.prog N_tidy_function_each := ⟨_, _, Tryz.func63, rfl⟩
abbrev N_tidy_function_many_1 : FuncId := 64
theorem E_tidy_function_many_1 : Tryz.prog.funcs[N_tidy_function_many_1]? = some Tryz.f64 := Tryz.func64
theorem I_tidy_function_many_1 : IsFn Tryz.prog N_tidy_function_many_1 := ⟨_, _, Tryz.func64, rfl⟩
abbrev N_slices_IndexFunc_int_int : FuncId := 65
theorem E_slices_IndexFunc_int_int : Tryz.prog.funcs[N_slices_IndexFunc_int_int]? = some Tryz.f65 := Tryz.func65
theorem I_slices_IndexFunc_int_int : IsFn Tryz.prog N_slices_IndexFunc_int_int := ⟨_, _, Tryz.func65, rfl⟩
abbrev N_tidy_function_turn_1 : FuncId := 76
theorem E_tidy_function_turn_1 : Tryz.prog.funcs[N_tidy_function_turn_1]? = some Tryz.f76 := Tryz.func76
theorem I_tidy_function_turn_1 : IsFn Tryz.prog N_tidy_function_turn_1 := ⟨_, _, Tryz.func76, rfl⟩
abbrev N_slices_EqualFunc_api_Type_api_Type_api_Type_api_Type : FuncId := 81
theorem E_slices_EqualFunc_api_Type_api_Type_api_Type_api_Type : Tryz.prog.funcs[N_slices_EqualFunc_api_Type_api_Type_api_Type_api_Type]? = some Tryz.f81 := Tryz.func81
theorem I_slices_EqualFunc_api_Type_api_Type_api_Type_api_Type : IsFn Tryz.prog N_slices_EqualFunc_api_Type_api_Type_api_Type_api_Type := ⟨_, _, Tryz.func81, rfl⟩
abbrev N_types_Same_1 : FuncId := 82
theorem E_types_Same_1 : Tryz.prog.funcs[N_types_Same_1]? = some Tryz.f82 := Tryz.func82
theorem I_types_Same_1 : IsFn Tryz.prog N_types_Same_1 := ⟨_, _, Tryz.func82, rfl⟩
abbrev N_types_may : FuncId := 83
theorem E_types_may : Tryz.prog.funcs[N_types_may]? = some Tryz.f83 := Tryz.func83
theorem I_types_may : IsFn Tryz.prog N_types_may := ⟨_, _, Tryz.func83, rfl⟩
abbrev N_slices_IndexFunc_api_Func_api_Func : FuncId := 84
theorem E_slices_IndexFunc_api_Func_api_Func : Tryz.prog.funcs[N_slices_IndexFunc_api_Func_api_Func]? = some Tryz.f84 := Tryz.func84
theorem I_slices_IndexFunc_api_Func_api_Func : IsFn Tryz.prog N_slices_IndexFunc_api_Func_api_Func := ⟨_, _, Tryz.func84, rfl⟩
abbrev N_shape_many : FuncId := 85
theorem E_shape_many : Tryz.prog.funcs[N_shape_many]? = some Tryz.f85 := Tryz.func85
theorem I_shape_many : IsFn Tryz.prog N_shape_many := ⟨_, _, Tryz.func85, rfl⟩
theorem G_shape_many {gl : Nat → AV} {K : Knob} : (Ctx.of Tryz.prog gl K).fn.get 85 = some Tryz.f85 := fn_of.trans Tryz.func85
theorem B_shape_many : Tryz.f85.body.isSome = true := rfl
abbrev N_shape_function_1 : FuncId := 86
theorem E_shape_function_1 : Tryz.prog.funcs[N_shape_function_1]? = some Tryz.f86 := Tryz.func86
theorem I_shape_function_1 : IsFn Tryz.prog N_shape_function_1 := ⟨_, _, Tryz.func86, rfl⟩
abbrev N_shape_ins : FuncId := 87
theorem E_shape_ins : Tryz.prog.funcs[N_shape_ins]? = some Tryz.f87 := Tryz.func87
theorem I_shape_ins : IsFn Tryz.prog N_shape_ins := ⟨_, _, Tryz.func87, rfl⟩
abbrev N_slices_ContainsFunc_api_Block_api_Block : FuncId := 88
theorem E_slices_ContainsFunc_api_Block_api_Block : Tryz.prog.funcs[N_slices_ContainsFunc_api_Block_api_Block]? = some Tryz.f88 := Tryz.func88
theorem I_slices_ContainsFunc_api_Block_api_Block : IsFn Tryz.prog N_slices_ContainsFunc_api_Block_api_Block := ⟨_, _, Tryz.func88, rfl⟩
abbrev N_shape_function_2 : FuncId := 89
theorem E_shape_function_2 : Tryz.prog.funcs[N_shape_function_2]? = some Tryz.f89 := Tryz.func89
theorem I_shape_function_2 : IsFn Tryz.prog N_shape_function_2 := ⟨_, _, Tryz.func89, rfl⟩
abbrev N_slices_ContainsFunc_api_Ins_api_Ins : FuncId := 90
theorem E_slices_ContainsFunc_api_Ins_api_Ins : Tryz.prog.funcs[N_slices_ContainsFunc_api_Ins_api_Ins]? = some Tryz.f90 := Tryz.func90
theorem I_slices_ContainsFunc_api_Ins_api_Ins : IsFn Tryz.prog N_slices_ContainsFunc_api_Ins_api_Ins := ⟨_, _, Tryz.func90, rfl⟩
abbrev N_shape_end : FuncId := 91
theorem E_shape_end : Tryz.prog.funcs[N_shape_end]? = some Tryz.f91 := Tryz.func91
theorem I_shape_end : IsFn Tryz.prog N_shape_end := ⟨_, _, Tryz.func91, rfl⟩
abbrev N_shape_asked : FuncId := 92
theorem E_shape_asked : Tryz.prog.funcs[N_shape_asked]? = some Tryz.f92 := Tryz.func92
theorem I_shape_asked : IsFn Tryz.prog N_shape_asked := ⟨_, _, Tryz.func92, rfl⟩
abbrev N_types_Twin : FuncId := 93
theorem E_types_Twin : Tryz.prog.funcs[N_types_Twin]? = some Tryz.f93 := Tryz.func93
theorem G_types_Twin {gl : Nat → AV} {K : Knob} : (Ctx.of Tryz.prog gl K).fn.get 93 = some Tryz.f93 := fn_of.trans Tryz.func93
theorem B_types_Twin : Tryz.f93.body.isSome = true := rfl
abbrev N_slices_Clone_api_Func_api_Func : FuncId := 94
theorem E_slices_Clone_api_Func_api_Func : Tryz.prog.funcs[N_slices_Clone_api_Func_api_Func]? = some Tryz.f94 := Tryz.func94
theorem G_slices_Clone_api_Func_api_Func {gl : Nat → AV} {K : Knob} : (Ctx.of Tryz.prog gl K).fn.get 94 = some Tryz.f94 := fn_of.trans Tryz.func94
theorem B_slices_Clone_api_Func_api_Func : Tryz.f94.body.isSome = true := rfl
abbrev N_slices_Clone_api_Block_api_Block : FuncId := 95
theorem E_slices_Clone_api_Block_api_Block : Tryz.prog.funcs[N_slices_Clone_api_Block_api_Block]? = some Tryz.f95 := Tryz.func95
theorem G_slices_Clone_api_Block_api_Block {gl : Nat → AV} {K : Knob} : (Ctx.of Tryz.prog gl K).fn.get 95 = some Tryz.f95 := fn_of.trans Tryz.func95
theorem B_slices_Clone_api_Block_api_Block : Tryz.f95.body.isSome = true := rfl
abbrev N_slices_Clone_api_Ins_api_Ins : FuncId := 96
theorem E_slices_Clone_api_Ins_api_Ins : Tryz.prog.funcs[N_slices_Clone_api_Ins_api_Ins]? = some Tryz.f96 := Tryz.func96
theorem I_slices_Clone_api_Ins_api_Ins : IsFn Tryz.prog N_slices_Clone_api_Ins_api_Ins := ⟨_, _, Tryz.func96, rfl⟩
abbrev N_slices_Clone_int_int : FuncId := 97
theorem E_slices_Clone_int_int : Tryz.prog.funcs[N_slices_Clone_int_int]? = some Tryz.f97 := Tryz.func97
theorem I_slices_Clone_int_int : IsFn Tryz.prog N_slices_Clone_int_int := ⟨_, _, Tryz.func97, rfl⟩
theorem G_slices_Clone_int_int {gl : Nat → AV} {K : Knob} : (Ctx.of Tryz.prog gl K).fn.get 97 = some Tryz.f97 := fn_of.trans Tryz.func97
theorem B_slices_Clone_int_int : Tryz.f97.body.isSome = true := rfl
abbrev N_types_plain : FuncId := 117
theorem E_types_plain : Tryz.prog.funcs[N_types_plain]? = some Tryz.f117 := Tryz.func117
theorem I_types_plain : IsFn Tryz.prog N_types_plain := ⟨_, _, Tryz.func117, rfl⟩
abbrev N_types_there : FuncId := 118
theorem E_types_there : Tryz.prog.funcs[N_types_there]? = some Tryz.f118 := Tryz.func118
theorem I_types_there : IsFn Tryz.prog N_types_there := ⟨_, _, Tryz.func118, rfl⟩
abbrev N_types_may_1 : FuncId := 119
theorem E_types_may_1 : Tryz.prog.funcs[N_types_may_1]? = some Tryz.f119 := Tryz.func119
theorem I_types_may_1 : IsFn Tryz.prog N_types_may_1 := ⟨_, _, Tryz.func119, rfl⟩
abbrev N_types_scalar : FuncId := 120
theorem E_types_scalar : Tryz.prog.funcs[N_types_scalar]? = some Tryz.f120 := Tryz.func120
theorem I_types_scalar : IsFn Tryz.prog N_types_scalar := ⟨_, _, Tryz.func120, rfl⟩
abbrev N_types_sum : FuncId := 121
theorem E_types_sum : Tryz.prog.funcs[N_types_sum]? = some Tryz.f121 := Tryz.func121
theorem I_types_sum : IsFn Tryz.prog N_types_sum := ⟨_, _, Tryz.func121, rfl⟩
abbrev N_shape_all : FuncId := 122
theorem E_shape_all : Tryz.prog.funcs[N_shape_all]? = some Tryz.f122 := Tryz.func122
theorem I_shape_all : IsFn Tryz.prog N_shape_all := ⟨_, _, Tryz.func122, rfl⟩
abbrev N_shape_number : FuncId := 123
theorem E_shape_number : Tryz.prog.funcs[N_shape_number]? = some Tryz.f123 := Tryz.func123
theorem I_shape_number : IsFn Tryz.prog N_shape_number := ⟨_, _, Tryz.func123, rfl⟩
abbrev N_slices_IndexFunc_api_Block_api_Block : FuncId := 124
theorem E_slices_IndexFunc_api_Block_api_Block : Tryz.prog.funcs[N_slices_IndexFunc_api_Block_api_Block]? = some Tryz.f124 := Tryz.func124
theorem I_slices_IndexFunc_api_Block_api_Block : IsFn Tryz.prog N_slices_IndexFunc_api_Block_api_Block := ⟨_, _, Tryz.func124, rfl⟩
abbrev N_slices_IndexFunc_api_Ins_api_Ins : FuncId := 125
theorem E_slices_IndexFunc_api_Ins_api_Ins : Tryz.prog.funcs[N_slices_IndexFunc_api_Ins_api_Ins]? = some Tryz.f125 := Tryz.func125
theorem I_slices_IndexFunc_api_Ins_api_Ins : IsFn Tryz.prog N_slices_IndexFunc_api_Ins_api_Ins := ⟨_, _, Tryz.func125, rfl⟩
abbrev N_slices_Clone_api_Type_api_Type : FuncId := 126
theorem E_slices_Clone_api_Type_api_Type : Tryz.prog.funcs[N_slices_Clone_api_Type_api_Type]? = some Tryz.f126 := Tryz.func126
theorem I_slices_Clone_api_Type_api_Type : IsFn Tryz.prog N_slices_Clone_api_Type_api_Type := ⟨_, _, Tryz.func126, rfl⟩
abbrev N_types_there_1 : FuncId := 162
theorem E_types_there_1 : Tryz.prog.funcs[N_types_there_1]? = some Tryz.f162 := Tryz.func162
theorem I_types_there_1 : IsFn Tryz.prog N_types_there_1 := ⟨_, _, Tryz.func162, rfl⟩
abbrev N_shape_all_1 : FuncId := 163
theorem E_shape_all_1 : Tryz.prog.funcs[N_shape_all_1]? = some Tryz.f163 := Tryz.func163
theorem I_shape_all_1 : IsFn Tryz.prog N_shape_all_1 := ⟨_, _, Tryz.func163, rfl⟩
end Go.Ax
noncomputable section
namespace Go.Ax
open Go.Proofs
variable {gl : Nat → AV} {K : Knob}
theorem ti2 : (Ctx.of Tryz.prog gl K).ti 2 = some { desc := .int .i64, size := 1, isAgg := false, zero := [.int .i64 0], zeroOk := true, bytes := 8, comparable := true, zv := .int .i64 0 } := (ti_of (by kernel_rfl)).trans (by kernel_rfl)
attribute [simp] ti2
theorem ti3 : (Ctx.of Tryz.prog gl K).ti 3 = some { desc := .int .i64, size := 1, isAgg := false, zero := [.int .i64 0], zeroOk := true, bytes := 8, comparable := true, zv := .int .i64 0 } := (ti_of (by kernel_rfl)).trans (by kernel_rfl)
attribute [simp] ti3
theorem ti4 : (Ctx.of Tryz.prog gl K).ti 4 = some { desc := .bool, size := 1, isAgg := false, zero := [.bool false], zeroOk := true, bytes := 1, comparable := true, zv := .bool false } := (ti_of (by kernel_rfl)).trans (by kernel_rfl)
attribute [simp] ti4
theorem ti5 : (Ctx.of Tryz.prog gl K).ti 5 = some { desc := .int .u8, size := 1, isAgg := false, zero := [.int .u8 0], zeroOk := true, bytes := 1, comparable := true, zv := .int .u8 0 } := (ti_of (by kernel_rfl)).trans (by kernel_rfl)
attribute [simp] ti5
theorem ti22 : (Ctx.of Tryz.prog gl K).ti 22 = some { desc := .slice 97, size := 1, isAgg := false, zero := [.nilsl], zeroOk := true, bytes := 24, comparable := false, zv := .nilsl } := (ti_of (by kernel_rfl)).trans (by kernel_rfl)
attribute [simp] ti22
theorem ti23 : (Ctx.of Tryz.prog gl K).ti 23 = some { desc := .slice 43, size := 1, isAgg := false, zero := [.nilsl], zeroOk := true, bytes := 24, comparable := false, zv := .nilsl } := (ti_of (by kernel_rfl)).trans (by kernel_rfl)
attribute [simp] ti23
theorem ti25 : (Ctx.of Tryz.prog gl K).ti 25 = some { desc := .struct #[{ name := "Types", type := 22, offset := 0, embedded := false, tag := "", pkgPath := "", byteOffset := 0 }, { name := "Funcs", type := 23, offset := 1, embedded := false, tag := "", pkgPath := "", byteOffset := 24 }], size := 2, isAgg := true, zero := [.nilsl, .nilsl], zeroOk := true, bytes := 48, comparable := false, zv := .agg [.nilsl, .nilsl] } := (ti_of (by kernel_rfl)).trans (by kernel_rfl)
attribute [simp] ti25
theorem ti26 : (Ctx.of Tryz.prog gl K).ti 26 = some { desc := .slice 3, size := 1, isAgg := false, zero := [.nilsl], zeroOk := true, bytes := 24, comparable := false, zv := .nilsl } := (ti_of (by kernel_rfl)).trans (by kernel_rfl)
attribute [simp] ti26
theorem ti41 : (Ctx.of Tryz.prog gl K).ti 41 = some { desc := .slice 49, size := 1, isAgg := false, zero := [.nilsl], zeroOk := true, bytes := 24, comparable := false, zv := .nilsl } := (ti_of (by kernel_rfl)).trans (by kernel_rfl)
attribute [simp] ti41
theorem ti43 : (Ctx.of Tryz.prog gl K).ti 43 = some { desc := .struct #[{ name := "Sig", type := 3, offset := 0, embedded := false, tag := "", pkgPath := "", byteOffset := 0 }, { name := "Blocks", type := 41, offset := 1, embedded := false, tag := "", pkgPath := "", byteOffset := 8 }], size := 2, isAgg := true, zero := [.int .i64 0, .nilsl], zeroOk := true, bytes := 32, comparable := false, zv := .agg [.int .i64 0, .nilsl] } := (ti_of (by kernel_rfl)).trans (by kernel_rfl)
attribute [simp] ti43
theorem ti45 : (Ctx.of Tryz.prog gl K).ti 45 = some { desc := .slice 52, size := 1, isAgg := false, zero := [.nilsl], zeroOk := true, bytes := 24, comparable := false, zv := .nilsl } := (ti_of (by kernel_rfl)).trans (by kernel_rfl)
attribute [simp] ti45
theorem ti47 : (Ctx.of Tryz.prog gl K).ti 47 = some { desc := .struct #[{ name := "Kind", type := 5, offset := 0, embedded := false, tag := "", pkgPath := "", byteOffset := 0 }, { name := "A", type := 3, offset := 1, embedded := false, tag := "", pkgPath := "", byteOffset := 8 }, { name := "To", type := 3, offset := 2, embedded := false, tag := "", pkgPath := "", byteOffset := 16 }, { name := "Else", type := 3, offset := 3, embedded := false, tag := "", pkgPath := "", byteOffset := 24 }], size := 4, isAgg := true, zero := [.int .u8 0, .int .i64 0, .int .i64 0, .int .i64 0], zeroOk := true, bytes := 32, comparable := true, zv := .agg [.int .u8 0, .int .i64 0, .int .i64 0, .int .i64 0] } := (ti_of (by kernel_rfl)).trans (by kernel_rfl)
attribute [simp] ti47
theorem ti49 : (Ctx.of Tryz.prog gl K).ti 49 = some { desc := .struct #[{ name := "Ins", type := 45, offset := 0, embedded := false, tag := "", pkgPath := "", byteOffset := 0 }, { name := "End", type := 47, offset := 1, embedded := false, tag := "", pkgPath := "", byteOffset := 24 }], size := 5, isAgg := true, zero := [.nilsl, .int .u8 0, .int .i64 0, .int .i64 0, .int .i64 0], zeroOk := true, bytes := 56, comparable := false, zv := .agg [.nilsl, .int .u8 0, .int .i64 0, .int .i64 0, .int .i64 0] } := (ti_of (by kernel_rfl)).trans (by kernel_rfl)
attribute [simp] ti49
theorem ti52 : (Ctx.of Tryz.prog gl K).ti 52 = some { desc := .struct #[{ name := "Op", type := 5, offset := 0, embedded := false, tag := "", pkgPath := "", byteOffset := 0 }, { name := "Type", type := 3, offset := 1, embedded := false, tag := "", pkgPath := "", byteOffset := 8 }, { name := "A", type := 3, offset := 2, embedded := false, tag := "", pkgPath := "", byteOffset := 16 }, { name := "B", type := 3, offset := 3, embedded := false, tag := "", pkgPath := "", byteOffset := 24 }, { name := "N", type := 2, offset := 4, embedded := false, tag := "", pkgPath := "", byteOffset := 32 }, { name := "Args", type := 26, offset := 5, embedded := false, tag := "", pkgPath := "", byteOffset := 40 }, { name := "From", type := 26, offset := 6, embedded := false, tag := "", pkgPath := "", byteOffset := 64 }], size := 7, isAgg := true, zero := [.int .u8 0, .int .i64 0, .int .i64 0, .int .i64 0, .int .i64 0, .nilsl, .nilsl], zeroOk := true, bytes := 88, comparable := false, zv := .agg [.int .u8 0, .int .i64 0, .int .i64 0, .int .i64 0, .int .i64 0, .nilsl, .nilsl] } := (ti_of (by kernel_rfl)).trans (by kernel_rfl)
attribute [simp] ti52
theorem ti69 : (Ctx.of Tryz.prog gl K).ti 69 = some { desc := .struct #[{ name := "params", type := 3, offset := 0, embedded := false, tag := "", pkgPath := "fescue/tidy", byteOffset := 0 }, { name := "blocks", type := 41, offset := 1, embedded := false, tag := "", pkgPath := "fescue/tidy", byteOffset := 8 }], size := 2, isAgg := true, zero := [.int .i64 0, .nilsl], zeroOk := true, bytes := 32, comparable := false, zv := .agg [.int .i64 0, .nilsl] } := (ti_of (by kernel_rfl)).trans (by kernel_rfl)
attribute [simp] ti69
theorem ti77 : (Ctx.of Tryz.prog gl K).ti 77 = some { desc := .func #[3] #[3] false, size := 1, isAgg := false, zero := [.nilfn], zeroOk := true, bytes := 8, comparable := false, zv := .nilfn } := (ti_of (by kernel_rfl)).trans (by kernel_rfl)
attribute [simp] ti77
theorem ti82 : (Ctx.of Tryz.prog gl K).ti 82 = some { desc := .func #[52, 52] #[4] false, size := 1, isAgg := false, zero := [.nilfn], zeroOk := true, bytes := 8, comparable := false, zv := .nilfn } := (ti_of (by kernel_rfl)).trans (by kernel_rfl)
attribute [simp] ti82
theorem ti84 : (Ctx.of Tryz.prog gl K).ti 84 = some { desc := .func #[49, 49] #[4] false, size := 1, isAgg := false, zero := [.nilfn], zeroOk := true, bytes := 8, comparable := false, zv := .nilfn } := (ti_of (by kernel_rfl)).trans (by kernel_rfl)
attribute [simp] ti84
theorem ti89 : (Ctx.of Tryz.prog gl K).ti 89 = some { desc := .struct #[{ name := "a", type := 4, offset := 0, embedded := false, tag := "", pkgPath := "fescue/shape", byteOffset := 0 }, { name := "b", type := 4, offset := 1, embedded := false, tag := "", pkgPath := "fescue/shape", byteOffset := 1 }, { name := "n", type := 4, offset := 2, embedded := false, tag := "", pkgPath := "fescue/shape", byteOffset := 2 }, { name := "args", type := 4, offset := 3, embedded := false, tag := "", pkgPath := "fescue/shape", byteOffset := 3 }, { name := "from", type := 4, offset := 4, embedded := false, tag := "", pkgPath := "fescue/shape", byteOffset := 4 }, { name := "answer", type := 4, offset := 5, embedded := false, tag := "", pkgPath := "fescue/shape", byteOffset := 5 }], size := 6, isAgg := true, zero := [.bool false, .bool false, .bool false, .bool false, .bool false, .bool false], zeroOk := true, bytes := 6, comparable := true, zv := .agg [.bool false, .bool false, .bool false, .bool false, .bool false, .bool false] } := (ti_of (by kernel_rfl)).trans (by kernel_rfl)
attribute [simp] ti89
theorem ti97 : (Ctx.of Tryz.prog gl K).ti 97 = some { desc := .struct #[{ name := "Kind", type := 5, offset := 0, embedded := false, tag := "", pkgPath := "", byteOffset := 0 }, { name := "Elem", type := 3, offset := 1, embedded := false, tag := "", pkgPath := "", byteOffset := 8 }, { name := "Many", type := 3, offset := 2, embedded := false, tag := "", pkgPath := "", byteOffset := 16 }, { name := "Parts", type := 26, offset := 3, embedded := false, tag := "", pkgPath := "", byteOffset := 24 }], size := 4, isAgg := true, zero := [.int .u8 0, .int .i64 0, .int .i64 0, .nilsl], zeroOk := true, bytes := 48, comparable := false, zv := .agg [.int .u8 0, .int .i64 0, .int .i64 0, .nilsl] } := (ti_of (by kernel_rfl)).trans (by kernel_rfl)
attribute [simp] ti97
theorem ti124 : (Ctx.of Tryz.prog gl K).ti 124 = some { desc := .struct #[{ name := "types", type := 3, offset := 0, embedded := false, tag := "", pkgPath := "fescue/shape", byteOffset := 0 }, { name := "funcs", type := 3, offset := 1, embedded := false, tag := "", pkgPath := "fescue/shape", byteOffset := 8 }, { name := "regs", type := 3, offset := 2, embedded := false, tag := "", pkgPath := "fescue/shape", byteOffset := 16 }, { name := "blocks", type := 3, offset := 3, embedded := false, tag := "", pkgPath := "fescue/shape", byteOffset := 24 }], size := 4, isAgg := true, zero := [.int .i64 0, .int .i64 0, .int .i64 0, .int .i64 0], zeroOk := true, bytes := 32, comparable := true, zv := .agg [.int .i64 0, .int .i64 0, .int .i64 0, .int .i64 0] } := (ti_of (by kernel_rfl)).trans (by kernel_rfl)
attribute [simp] ti124
theorem ti126 : (Ctx.of Tryz.prog gl K).ti 126 = some { desc := .func #[52] #[4] false, size := 1, isAgg := false, zero := [.nilfn], zeroOk := true, bytes := 8, comparable := false, zv := .nilfn } := (ti_of (by kernel_rfl)).trans (by kernel_rfl)
attribute [simp] ti126
end Go.Ax
noncomputable section
namespace Go.Ax
open Go.Proofs
variable {gl : Nat → AV} {K : Knob}
abbrev T_has : TypeId := 89
abbrev T_sizes : TypeId := 124
abbrev NG_shape_table : Nat := 0
theorem ti118 : (Ctx.of Tryz.prog gl K).ti 118 = some { desc := .array 23 89, size := 138, isAgg := true, zero := [.bool false, .bool false, .bool false, .bool false, .bool false, .bool false, .bool false, .bool false, .bool false, .bool false, .bool false, .bool false, .bool false, .bool false, .bool false, .bool false, .bool false, .bool false, .bool false, .bool false, .bool false, .bool false, .bool false, .bool false, .bool false, .bool false, .bool false, .bool false, .bool false, .bool false, .bool false, .bool false, .bool false, .bool false, .bool false, .bool false, .bool false, .bool false, .bool false, .bool false, .bool false, .bool false, .bool false, .bool false, .bool false, .bool false, .bool false, .bool false, .bool false, .bool false, .bool false, .bool false, .bool false, .bool false, .bool false, .bool false, .bool false, .bool false, .bool false, .bool false, .bool false, .bool false, .bool false, .bool false, .bool false, .bool false, .bool false, .bool false, .bool false, .bool false, .bool false, .bool false, .bool false, .bool false, .bool false, .bool false, .bool false, .bool false, .bool false, .bool false, .bool false, .bool false, .bool false, .bool false, .bool false, .bool false, .bool false, .bool false, .bool false, .bool false, .bool false, .bool false, .bool false, .bool false, .bool false, .bool false, .bool false, .bool false, .bool false, .bool false, .bool false, .bool false, .bool false, .bool false, .bool false, .bool false, .bool false, .bool false, .bool false, .bool false, .bool false, .bool false, .bool false, .bool false, .bool false, .bool false, .bool false, .bool false, .bool false, .bool false, .bool false, .bool false, .bool false, .bool false, .bool false, .bool false, .bool false, .bool false, .bool false, .bool false, .bool false, .bool false, .bool false, .bool false, .bool false, .bool false, .bool false, .bool false], zeroOk := true, bytes := 138, comparable := true, zv := .agg [.bool false, .bool false, .bool false, .bool false, .bool false, .bool false, .bool false, .bool false, .bool false, .bool false, .bool false, .bool false, .bool false, .bool false, .bool false, .bool false, .bool false, .bool false, .bool false, .bool false, .bool false, .bool false, .bool false, .bool false, .bool false, .bool false, .bool false, .bool false, .bool false, .bool false, .bool false, .bool false, .bool false, .bool false, .bool false, .bool false, .bool false, .bool false, .bool false, .bool false, .bool false, .bool false, .bool false, .bool false, .bool false, .bool false, .bool false, .bool false, .bool false, .bool false, .bool false, .bool false, .bool false, .bool false, .bool false, .bool false, .bool false, .bool false, .bool false, .bool false, .bool false, .bool false, .bool false, .bool false, .bool false, .bool false, .bool false, .bool false, .bool false, .bool false, .bool false, .bool false, .bool false, .bool false, .bool false, .bool false, .bool false, .bool false, .bool false, .bool false, .bool false, .bool false, .bool false, .bool false, .bool false, .bool false, .bool false, .bool false, .bool false, .bool false, .bool false, .bool false, .bool false, .bool false, .bool false, .bool false, .bool false, .bool false, .bool false, .bool false, .bool false, .bool false, .bool false, .bool false, .bool false, .bool false, .bool false, .bool false, .bool false, .bool false, .bool false, .bool false, .bool false, .bool false, .bool false, .bool false, .bool false, .bool false, .bool false, .bool false, .bool false, .bool false, .bool false, .bool false, .bool false, .bool false, .bool false, .bool false, .bool false, .bool false, .bool false, .bool false, .bool false, .bool false, .bool false, .bool false, .bool false, .bool false] } := (ti_of (by kernel_rfl)).trans (by kernel_rfl)
attribute [simp] ti118
end Go.Ax
noncomputable section
namespace Go.Ax
open Go.Proofs
attribute [local irreducible] TW TO CallsT PureC
variable {F : Nat → Option Obj} {gl : Nat → AV} {K : Knob}
def idxP {α : Type} (p : α → Bool) (l : List α) : Int := match l.findIdx? p with | some i => (i : Int) | none => -1
theorem idxP_any {α : Type} (p : α → Bool) (l : List α) : decide (0 ≤ idxP p l) = l.any p := by
  unfold idxP
  cases h : l.findIdx? p with
  | none =>
    have := List.findIdx?_eq_none_iff.1 h
    have h2 : l.any p = false := by rw [List.any_eq_false]; intro x hx; simp [this x hx]
    rw [h2]; rfl
  | some i =>
    have h2 : l.any p = true := by
      obtain ⟨h1, h2, _⟩ := List.findIdx?_eq_some_iff_getElem.1 h
      exact List.any_eq_true.2 ⟨_, List.getElem_mem h1, h2⟩
    rw [h2]; simp
theorem IndexFunc_ints (hP : POk Tryz.prog F gl K) (xs : Sl Int) (g : FuncId) (cap : List AV) (p : Int → Bool) (hg : IsFn Tryz.prog g) (h : Hp) (hlen : xs.list.length < 1000000)
  (hc : ∀ x ∈ xs.list, ∀ h', Wid h h' → Qt Tryz.prog F h' (.bool (p x)) g ([.int .i64 x] ++ cap)) :
  Qt Tryz.prog F h (.int .i64 (idxP p xs.list)) N_slices_IndexFunc_int_int [xs.av cI, .fn (.func g) [] cap] := by
 refine CallsT.body hP nix_sound E_slices_IndexFunc_int_int rfl rfl ?_
 refine TW.seq (TW.reg hP (by simp <;> rfl) ?_)
 dsimp only [goK, thenQ, blockQ, roundL]
 refine TW.seq (TW.seq (TW.reg hP (by simp <;> rfl) ?_))
 dsimp only [goK, thenQ, blockQ, roundL]
 refine TW.block (TW.loopL (fun i : Nat => [(0, xs.av cI), (1, .fn (.func g) [] cap), (7, .int .i64 xs.list.length), (8, .int .i64 (i : Nat))]) (fun i k => i ≤ xs.list.length ∧ (∀ j (hj : j < i) (hl : j < xs.list.length), p (xs.list[j]) = false) ∧ Wid h k) (fun i => xs.list.length - i) 0 (by repeat' first | exact less_nil | refine less_cons (by simp) ?_) ⟨Nat.zero_le _, fun j hj => absurd hj (Nat.not_lt_zero _), .refl _⟩ ?_)
 rintro i k ⟨hi, hno, hw⟩
 refine TW.seq (TW.reg hP (by simp <;> rfl) ?_)
 dsimp only [goK, thenQ, blockQ, roundL]
 refine TW.seq (TW.cond hP rfl (fun hc' => TW.skip ?_) (fun hc' => TW.exit ?_))
 ·have hi' : i < xs.list.length := by simpa using hc'
  have hx : xs.list[i]? = some xs.list[i] := List.getElem?_eq_getElem hi'
  have hav := av_pos (e := cI) (show 0 < xs.list.length by omega)
  dsimp only [thenQ]
  refine TW.seq (TW.block (TW.seq (TW.reg hP (by simp <;> rfl) ?_)))
  dsimp only [goK, thenQ]
  refine TW.seq (TW.reg hP (by simp [cI, hx, hav] <;> rfl) ?_)
  dsimp only [goK, thenQ, blockQ, roundL]
  refine TO.qcall hP hg (hc xs.list[i] (List.getElem_mem hi') k hw) (by simp) rfl rfl rfl rfl fun k' hk' => ?_
  refine TO.runs hP (by simp <;> rfl) ?_
  dsimp only [goK, thenQ, blockQ, roundL]
  refine TW.cond hP rfl (fun hp => ?_) (fun hp => TW.skip ?_)
  ·refine TW.seq (TW.reg hP (by simp <;> rfl) ?_)
   dsimp only [goK, thenQ, blockQ, roundL]
   refine TW.ret ⟨.inr rfl, k', _, rfl, rfl, ?_, hw.trans hk'⟩
   simp only [tupOf, idxP]
   rw [List.findIdx?_eq_some_iff_getElem.2 ⟨hi', hp, fun j hj => by simp [hno j hj (by omega)]⟩]
  ·dsimp only [blockQ, thenQ]
   refine TW.reg hP (by simp; simp (disch := omega) only [bAdd]; simp <;> rfl) ?_
   dsimp only [goK, thenQ, blockQ, roundL]
   refine ⟨i + 1, by omega, rfl, ?_, by omega, fun j hj hl => ?_, hw.trans hk'⟩
   ·repeat' first | exact less_nil | refine less_cons (by simp [hav]) ?_
   ·by_cases he : j = i
    ·subst he; exact hp
    ·exact hno j (by omega) hl
 ·have hi' : ¬ i < xs.list.length := by simpa using hc'
  dsimp only [thenQ, roundL, blockQ]
  refine TW.seq (TW.reg hP (by simp <;> rfl) ?_)
  dsimp only [goK, thenQ, blockQ, roundL]
  refine TW.ret ⟨.inr rfl, k, _, rfl, rfl, ?_, hw⟩
  simp only [tupOf, idxP]
  rw [List.findIdx?_eq_none_iff.2 fun x hx => by
   obtain ⟨j, hj, rfl⟩ := List.getElem_of_mem hx
   exact hno j (by omega) hj]
theorem ContainsFunc_ints (hP : POk Tryz.prog F gl K) (xs : Sl Int) (g : FuncId) (cap : List AV) (p : Int → Bool) (hg : IsFn Tryz.prog g) (h : Hp) (hlen : xs.list.length < 1000000)
  (hc : ∀ x ∈ xs.list, ∀ h', Wid h h' → Qt Tryz.prog F h' (.bool (p x)) g ([.int .i64 x] ++ cap)) :
  Qt Tryz.prog F h (.bool (xs.list.any p)) N_slices_ContainsFunc_int_int [xs.av cI, .fn (.func g) [] cap] := by
 refine CallsT.body hP nix_sound E_slices_ContainsFunc_int_int rfl rfl ?_
 refine TW.seq (TW.reg hP (by simp <;> rfl) ?_)
 dsimp only [goK, thenQ, blockQ, roundL]
 refine TW.seq (TW.reg hP (by simp <;> rfl) ?_)
 dsimp only [goK, thenQ, blockQ, roundL]
 refine TO.qcall hP I_slices_IndexFunc_int_int (IndexFunc_ints hP xs g cap p hg h hlen hc) (by simp) rfl rfl rfl rfl fun k hk => ?_
 refine TO.runs hP (by simp <;> rfl) ?_
 dsimp only [goK, thenQ, blockQ, roundL]
 refine TW.ret ⟨.inr rfl, k, _, rfl, rfl, ?_, hk⟩
 rw [← idxP_any]; rfl
theorem IndexFunc_funcs (hP : POk Tryz.prog F gl K) (xs : Sl LFunc) (g : FuncId) (cap : List AV) (p : LFunc → Bool) (hg : IsFn Tryz.prog g) (h : Hp) (hlen : xs.list.length < 1000000)
  (hc : ∀ x ∈ xs.list, ∀ h', Wid h h' → Qt Tryz.prog F h' (.bool (p x)) g ([.agg (LFunc.cells x)] ++ cap)) :
  Qt Tryz.prog F h (.int .i64 (idxP p xs.list)) N_slices_IndexFunc_api_Func_api_Func [xs.av LFunc.cells, .fn (.func g) [] cap] := by
 refine CallsT.body hP nix_sound E_slices_IndexFunc_api_Func_api_Func rfl rfl ?_
 refine TW.seq (TW.reg hP (by simp <;> rfl) ?_)
 dsimp only [goK, thenQ, blockQ, roundL]
 refine TW.seq (TW.seq (TW.reg hP (by simp <;> rfl) ?_))
 dsimp only [goK, thenQ, blockQ, roundL]
 refine TW.block (TW.loopL (fun i : Nat => [(0, xs.av LFunc.cells), (1, .fn (.func g) [] cap), (7, .int .i64 xs.list.length), (8, .int .i64 (i : Nat))]) (fun i k => i ≤ xs.list.length ∧ (∀ j (hj : j < i) (hl : j < xs.list.length), p (xs.list[j]) = false) ∧ Wid h k) (fun i => xs.list.length - i) 0 (by repeat' first | exact less_nil | refine less_cons (by simp) ?_) ⟨Nat.zero_le _, fun j hj => absurd hj (Nat.not_lt_zero _), .refl _⟩ ?_)
 rintro i k ⟨hi, hno, hw⟩
 refine TW.seq (TW.reg hP (by simp <;> rfl) ?_)
 dsimp only [goK, thenQ, blockQ, roundL]
 refine TW.seq (TW.cond hP rfl (fun hc' => TW.skip ?_) (fun hc' => TW.exit ?_))
 ·have hi' : i < xs.list.length := by simpa using hc'
  have hx : xs.list[i]? = some xs.list[i] := List.getElem?_eq_getElem hi'
  have hav := av_pos (e := LFunc.cells) (show 0 < xs.list.length by omega)
  dsimp only [thenQ]
  refine TW.seq (TW.block (TW.seq (TW.reg hP (by simp <;> rfl) ?_)))
  dsimp only [goK, thenQ]
  refine TW.seq (TW.reg hP (by simp [hx, hav] <;> rfl) ?_)
  dsimp only [goK, thenQ, blockQ, roundL]
  refine TO.qcall hP hg (hc xs.list[i] (List.getElem_mem hi') k hw) (by simp) rfl rfl rfl rfl fun k' hk' => ?_
  refine TO.runs hP (by simp <;> rfl) ?_
  dsimp only [goK, thenQ, blockQ, roundL]
  refine TW.cond hP rfl (fun hp => ?_) (fun hp => TW.skip ?_)
  ·refine TW.seq (TW.reg hP (by simp <;> rfl) ?_)
   dsimp only [goK, thenQ, blockQ, roundL]
   refine TW.ret ⟨.inr rfl, k', _, rfl, rfl, ?_, hw.trans hk'⟩
   simp only [tupOf, idxP]
   rw [List.findIdx?_eq_some_iff_getElem.2 ⟨hi', hp, fun j hj => by simp [hno j hj (by omega)]⟩]
  ·dsimp only [blockQ, thenQ]
   refine TW.reg hP (by simp; simp (disch := omega) only [bAdd]; simp <;> rfl) ?_
   dsimp only [goK, thenQ, blockQ, roundL]
   refine ⟨i + 1, by omega, rfl, ?_, by omega, fun j hj hl => ?_, hw.trans hk'⟩
   ·repeat' first | exact less_nil | refine less_cons (by simp [hav]) ?_
   ·by_cases he : j = i
    ·subst he; exact hp
    ·exact hno j (by omega) hl
 ·have hi' : ¬ i < xs.list.length := by simpa using hc'
  dsimp only [thenQ, roundL, blockQ]
  refine TW.seq (TW.reg hP (by simp <;> rfl) ?_)
  dsimp only [goK, thenQ, blockQ, roundL]
  refine TW.ret ⟨.inr rfl, k, _, rfl, rfl, ?_, hw⟩
  simp only [tupOf, idxP]
  rw [List.findIdx?_eq_none_iff.2 fun x hx => by
   obtain ⟨j, hj, rfl⟩ := List.getElem_of_mem hx
   exact hno j (by omega) hj]
theorem ContainsFunc_funcs (hP : POk Tryz.prog F gl K) (xs : Sl LFunc) (g : FuncId) (cap : List AV) (p : LFunc → Bool) (hg : IsFn Tryz.prog g) (h : Hp) (hlen : xs.list.length < 1000000)
  (hc : ∀ x ∈ xs.list, ∀ h', Wid h h' → Qt Tryz.prog F h' (.bool (p x)) g ([.agg (LFunc.cells x)] ++ cap)) :
  Qt Tryz.prog F h (.bool (xs.list.any p)) N_slices_ContainsFunc_api_Func_api_Func [xs.av LFunc.cells, .fn (.func g) [] cap] := by
 refine CallsT.body hP nix_sound E_slices_ContainsFunc_api_Func_api_Func rfl rfl ?_
 refine TW.seq (TW.reg hP (by simp <;> rfl) ?_)
 dsimp only [goK, thenQ, blockQ, roundL]
 refine TW.seq (TW.reg hP (by simp <;> rfl) ?_)
 dsimp only [goK, thenQ, blockQ, roundL]
 refine TO.qcall hP I_slices_IndexFunc_api_Func_api_Func (IndexFunc_funcs hP xs g cap p hg h hlen hc) (by simp) rfl rfl rfl rfl fun k hk => ?_
 refine TO.runs hP (by simp <;> rfl) ?_
 dsimp only [goK, thenQ, blockQ, roundL]
 refine TW.ret ⟨.inr rfl, k, _, rfl, rfl, ?_, hk⟩
 rw [← idxP_any]; rfl
theorem IndexFunc_blocks (hP : POk Tryz.prog F gl K) (xs : Sl LBlock) (g : FuncId) (cap : List AV) (p : LBlock → Bool) (hg : IsFn Tryz.prog g) (h : Hp) (hlen : xs.list.length < 1000000)
  (hc : ∀ x ∈ xs.list, ∀ h', Wid h h' → Qt Tryz.prog F h' (.bool (p x)) g ([.agg (LBlock.cells x)] ++ cap)) :
  Qt Tryz.prog F h (.int .i64 (idxP p xs.list)) N_slices_IndexFunc_api_Block_api_Block [xs.av LBlock.cells, .fn (.func g) [] cap] := by
 refine CallsT.body hP nix_sound E_slices_IndexFunc_api_Block_api_Block rfl rfl ?_
 refine TW.seq (TW.reg hP (by simp <;> rfl) ?_)
 dsimp only [goK, thenQ, blockQ, roundL]
 refine TW.seq (TW.seq (TW.reg hP (by simp <;> rfl) ?_))
 dsimp only [goK, thenQ, blockQ, roundL]
 refine TW.block (TW.loopL (fun i : Nat => [(0, xs.av LBlock.cells), (1, .fn (.func g) [] cap), (7, .int .i64 xs.list.length), (8, .int .i64 (i : Nat))]) (fun i k => i ≤ xs.list.length ∧ (∀ j (hj : j < i) (hl : j < xs.list.length), p (xs.list[j]) = false) ∧ Wid h k) (fun i => xs.list.length - i) 0 (by repeat' first | exact less_nil | refine less_cons (by simp) ?_) ⟨Nat.zero_le _, fun j hj => absurd hj (Nat.not_lt_zero _), .refl _⟩ ?_)
 rintro i k ⟨hi, hno, hw⟩
 refine TW.seq (TW.reg hP (by simp <;> rfl) ?_)
 dsimp only [goK, thenQ, blockQ, roundL]
 refine TW.seq (TW.cond hP rfl (fun hc' => TW.skip ?_) (fun hc' => TW.exit ?_))
 ·have hi' : i < xs.list.length := by simpa using hc'
  have hx : xs.list[i]? = some xs.list[i] := List.getElem?_eq_getElem hi'
  have hav := av_pos (e := LBlock.cells) (show 0 < xs.list.length by omega)
  dsimp only [thenQ]
  refine TW.seq (TW.block (TW.seq (TW.reg hP (by simp <;> rfl) ?_)))
  dsimp only [goK, thenQ]
  refine TW.seq (TW.reg hP (by simp [hx, hav] <;> rfl) ?_)
  dsimp only [goK, thenQ, blockQ, roundL]
  refine TO.qcall hP hg (hc xs.list[i] (List.getElem_mem hi') k hw) (by simp) rfl rfl rfl rfl fun k' hk' => ?_
  refine TO.runs hP (by simp <;> rfl) ?_
  dsimp only [goK, thenQ, blockQ, roundL]
  refine TW.cond hP rfl (fun hp => ?_) (fun hp => TW.skip ?_)
  ·refine TW.seq (TW.reg hP (by simp <;> rfl) ?_)
   dsimp only [goK, thenQ, blockQ, roundL]
   refine TW.ret ⟨.inr rfl, k', _, rfl, rfl, ?_, hw.trans hk'⟩
   simp only [tupOf, idxP]
   rw [List.findIdx?_eq_some_iff_getElem.2 ⟨hi', hp, fun j hj => by simp [hno j hj (by omega)]⟩]
  ·dsimp only [blockQ, thenQ]
   refine TW.reg hP (by simp; simp (disch := omega) only [bAdd]; simp <;> rfl) ?_
   dsimp only [goK, thenQ, blockQ, roundL]
   refine ⟨i + 1, by omega, rfl, ?_, by omega, fun j hj hl => ?_, hw.trans hk'⟩
   ·repeat' first | exact less_nil | refine less_cons (by simp [hav]) ?_
   ·by_cases he : j = i
    ·subst he; exact hp
    ·exact hno j (by omega) hl
 ·have hi' : ¬ i < xs.list.length := by simpa using hc'
  dsimp only [thenQ, roundL, blockQ]
  refine TW.seq (TW.reg hP (by simp <;> rfl) ?_)
  dsimp only [goK, thenQ, blockQ, roundL]
  refine TW.ret ⟨.inr rfl, k, _, rfl, rfl, ?_, hw⟩
  simp only [tupOf, idxP]
  rw [List.findIdx?_eq_none_iff.2 fun x hx => by
   obtain ⟨j, hj, rfl⟩ := List.getElem_of_mem hx
   exact hno j (by omega) hj]
theorem ContainsFunc_blocks (hP : POk Tryz.prog F gl K) (xs : Sl LBlock) (g : FuncId) (cap : List AV) (p : LBlock → Bool) (hg : IsFn Tryz.prog g) (h : Hp) (hlen : xs.list.length < 1000000)
  (hc : ∀ x ∈ xs.list, ∀ h', Wid h h' → Qt Tryz.prog F h' (.bool (p x)) g ([.agg (LBlock.cells x)] ++ cap)) :
  Qt Tryz.prog F h (.bool (xs.list.any p)) N_slices_ContainsFunc_api_Block_api_Block [xs.av LBlock.cells, .fn (.func g) [] cap] := by
 refine CallsT.body hP nix_sound E_slices_ContainsFunc_api_Block_api_Block rfl rfl ?_
 refine TW.seq (TW.reg hP (by simp <;> rfl) ?_)
 dsimp only [goK, thenQ, blockQ, roundL]
 refine TW.seq (TW.reg hP (by simp <;> rfl) ?_)
 dsimp only [goK, thenQ, blockQ, roundL]
 refine TO.qcall hP I_slices_IndexFunc_api_Block_api_Block (IndexFunc_blocks hP xs g cap p hg h hlen hc) (by simp) rfl rfl rfl rfl fun k hk => ?_
 refine TO.runs hP (by simp <;> rfl) ?_
 dsimp only [goK, thenQ, blockQ, roundL]
 refine TW.ret ⟨.inr rfl, k, _, rfl, rfl, ?_, hk⟩
 rw [← idxP_any]; rfl
theorem IndexFunc_inss (hP : POk Tryz.prog F gl K) (xs : Sl LIns) (g : FuncId) (cap : List AV) (p : LIns → Bool) (hg : IsFn Tryz.prog g) (h : Hp) (hlen : xs.list.length < 1000000)
  (hc : ∀ x ∈ xs.list, ∀ h', Wid h h' → Qt Tryz.prog F h' (.bool (p x)) g ([.agg (LIns.cells x)] ++ cap)) :
  Qt Tryz.prog F h (.int .i64 (idxP p xs.list)) N_slices_IndexFunc_api_Ins_api_Ins [xs.av LIns.cells, .fn (.func g) [] cap] := by
 refine CallsT.body hP nix_sound E_slices_IndexFunc_api_Ins_api_Ins rfl rfl ?_
 refine TW.seq (TW.reg hP (by simp <;> rfl) ?_)
 dsimp only [goK, thenQ, blockQ, roundL]
 refine TW.seq (TW.seq (TW.reg hP (by simp <;> rfl) ?_))
 dsimp only [goK, thenQ, blockQ, roundL]
 refine TW.block (TW.loopL (fun i : Nat => [(0, xs.av LIns.cells), (1, .fn (.func g) [] cap), (7, .int .i64 xs.list.length), (8, .int .i64 (i : Nat))]) (fun i k => i ≤ xs.list.length ∧ (∀ j (hj : j < i) (hl : j < xs.list.length), p (xs.list[j]) = false) ∧ Wid h k) (fun i => xs.list.length - i) 0 (by repeat' first | exact less_nil | refine less_cons (by simp) ?_) ⟨Nat.zero_le _, fun j hj => absurd hj (Nat.not_lt_zero _), .refl _⟩ ?_)
 rintro i k ⟨hi, hno, hw⟩
 refine TW.seq (TW.reg hP (by simp <;> rfl) ?_)
 dsimp only [goK, thenQ, blockQ, roundL]
 refine TW.seq (TW.cond hP rfl (fun hc' => TW.skip ?_) (fun hc' => TW.exit ?_))
 ·have hi' : i < xs.list.length := by simpa using hc'
  have hx : xs.list[i]? = some xs.list[i] := List.getElem?_eq_getElem hi'
  have hav := av_pos (e := LIns.cells) (show 0 < xs.list.length by omega)
  dsimp only [thenQ]
  refine TW.seq (TW.block (TW.seq (TW.reg hP (by simp <;> rfl) ?_)))
  dsimp only [goK, thenQ]
  refine TW.seq (TW.reg hP (by simp [hx, hav] <;> rfl) ?_)
  dsimp only [goK, thenQ, blockQ, roundL]
  refine TO.qcall hP hg (hc xs.list[i] (List.getElem_mem hi') k hw) (by simp) rfl rfl rfl rfl fun k' hk' => ?_
  refine TO.runs hP (by simp <;> rfl) ?_
  dsimp only [goK, thenQ, blockQ, roundL]
  refine TW.cond hP rfl (fun hp => ?_) (fun hp => TW.skip ?_)
  ·refine TW.seq (TW.reg hP (by simp <;> rfl) ?_)
   dsimp only [goK, thenQ, blockQ, roundL]
   refine TW.ret ⟨.inr rfl, k', _, rfl, rfl, ?_, hw.trans hk'⟩
   simp only [tupOf, idxP]
   rw [List.findIdx?_eq_some_iff_getElem.2 ⟨hi', hp, fun j hj => by simp [hno j hj (by omega)]⟩]
  ·dsimp only [blockQ, thenQ]
   refine TW.reg hP (by simp; simp (disch := omega) only [bAdd]; simp <;> rfl) ?_
   dsimp only [goK, thenQ, blockQ, roundL]
   refine ⟨i + 1, by omega, rfl, ?_, by omega, fun j hj hl => ?_, hw.trans hk'⟩
   ·repeat' first | exact less_nil | refine less_cons (by simp [hav]) ?_
   ·by_cases he : j = i
    ·subst he; exact hp
    ·exact hno j (by omega) hl
 ·have hi' : ¬ i < xs.list.length := by simpa using hc'
  dsimp only [thenQ, roundL, blockQ]
  refine TW.seq (TW.reg hP (by simp <;> rfl) ?_)
  dsimp only [goK, thenQ, blockQ, roundL]
  refine TW.ret ⟨.inr rfl, k, _, rfl, rfl, ?_, hw⟩
  simp only [tupOf, idxP]
  rw [List.findIdx?_eq_none_iff.2 fun x hx => by
   obtain ⟨j, hj, rfl⟩ := List.getElem_of_mem hx
   exact hno j (by omega) hj]
theorem ContainsFunc_inss (hP : POk Tryz.prog F gl K) (xs : Sl LIns) (g : FuncId) (cap : List AV) (p : LIns → Bool) (hg : IsFn Tryz.prog g) (h : Hp) (hlen : xs.list.length < 1000000)
  (hc : ∀ x ∈ xs.list, ∀ h', Wid h h' → Qt Tryz.prog F h' (.bool (p x)) g ([.agg (LIns.cells x)] ++ cap)) :
  Qt Tryz.prog F h (.bool (xs.list.any p)) N_slices_ContainsFunc_api_Ins_api_Ins [xs.av LIns.cells, .fn (.func g) [] cap] := by
 refine CallsT.body hP nix_sound E_slices_ContainsFunc_api_Ins_api_Ins rfl rfl ?_
 refine TW.seq (TW.reg hP (by simp <;> rfl) ?_)
 dsimp only [goK, thenQ, blockQ, roundL]
 refine TW.seq (TW.reg hP (by simp <;> rfl) ?_)
 dsimp only [goK, thenQ, blockQ, roundL]
 refine TO.qcall hP I_slices_IndexFunc_api_Ins_api_Ins (IndexFunc_inss hP xs g cap p hg h hlen hc) (by simp) rfl rfl rfl rfl fun k hk => ?_
 refine TO.runs hP (by simp <;> rfl) ?_
 dsimp only [goK, thenQ, blockQ, roundL]
 refine TW.ret ⟨.inr rfl, k, _, rfl, rfl, ?_, hk⟩
 rw [← idxP_any]; rfl
def thereS (most : Int) (l : List Int) : Bool := l.all fun n => decide (0 ≤ n) && decide (n < most)
theorem there1 (hP : POk Tryz.prog F gl K) (most n : Int) (r : Nat) (e : TypeId) (h : Hp) (hr : h.get r = some (.cells e [.int .i64 most])) :
  Qt Tryz.prog F h (.bool (decide (n < 0) || decide (most ≤ n))) N_types_there_1 [.int .i64 n, .ptr r 0] := by
 refine CallsT.body hP nix_sound E_types_there_1 rfl rfl ?_
 refine TW.seq (TW.reg hP (by simp <;> rfl) ?_)
 dsimp only [goK, thenQ, blockQ, roundL]
 by_cases hn : n < 0
 ·refine TW.seq (TW.reg hP (by simp [hn, hr] <;> rfl) ?_)
  dsimp only [goK, thenQ, blockQ, roundL]
  refine TW.ret ⟨.inr rfl, h, _, rfl, rfl, ?_, .refl _⟩
  simp [tupOf, hn]
 ·refine TW.seq (TW.reg hP (by simp [hn, hr] <;> rfl) ?_)
  dsimp only [goK, thenQ, blockQ, roundL]
  refine TW.ret ⟨.inr rfl, h, _, rfl, rfl, ?_, .refl _⟩
  simp [tupOf, hn]
def scalarS (x : LType) : Bool := decide (1 ≤ x.kind) && decide (x.kind ≤ 3)
theorem scalar_pure (hP : POk Tryz.prog F gl K) (x : LType) : PureC Tryz.prog F N_types_scalar [.agg x.cells] (.bool (scalarS x)) := by
 refine CallsT.pure (O := fun v _ => v = .bool (scalarS x)) (k := 1) (by simp) ?_ (fun v h e => by subst e; rfl)
 refine CallsT.body hP nix_sound E_types_scalar rfl rfl ?_
 refine TW.seq (TW.reg hP (by simp <;> rfl) ?_)
 dsimp only [goK, thenQ, blockQ, roundL]
 by_cases h1 : 1 ≤ x.kind
 ·refine TW.seq (TW.reg hP (by simp [h1] <;> rfl) ?_)
  dsimp only [goK, thenQ, blockQ, roundL]
  refine TW.ret ⟨.inr rfl, _, _, rfl, rfl, ?_⟩
  simp [tupOf, scalarS, h1]
 ·refine TW.seq (TW.reg hP (by simp [h1] <;> rfl) ?_)
  dsimp only [goK, thenQ, blockQ, roundL]
  refine TW.ret ⟨.inr rfl, _, _, rfl, rfl, ?_⟩
  simp [tupOf, scalarS, h1]
def sumN : List Int → Int
 | [] => 0
 | a :: l => a + sumN l
theorem sumN_app (l k : List Int) : sumN (l ++ k) = sumN l + sumN k := by
 induction l with
 | nil => simp [sumN]
 | cons a l ih => simp [sumN, ih]; omega
theorem sumN_take (l : List Int) (i : Nat) (h : i < l.length) : sumN (l.take (i + 1)) = sumN (l.take i) + l[i] := by
 rw [List.take_succ_eq_append_getElem h, sumN_app]
 simp [sumN]
theorem sumN_bnd (c : Int) (hc : 0 ≤ c) : ∀ (l : List Int), (∀ x ∈ l, 0 ≤ x ∧ x ≤ c) → 0 ≤ sumN l ∧ sumN l ≤ c * l.length
  | [], _ => by simp [sumN]
  | a :: l, h => by
    obtain ⟨h1, h2⟩ := sumN_bnd c hc l fun x hx => h x (List.mem_cons_of_mem _ hx)
    obtain ⟨h3, h4⟩ := h a List.mem_cons_self
    refine ⟨by simp only [sumN]; omega, ?_⟩
    simp only [sumN, List.length_cons, Int.natCast_add, Int.mul_add]
    omega
theorem slt_ints : slT (Ctx.of Tryz.prog gl K) T_ints T_int 1 = true := by simp [slT]
theorem sum_qt (hP : POk Tryz.prog F gl K) (h : Hp) (v : AV) (xs : List Int) (hr : RdI h v xs) (hlen : xs.length < 1000000) (hx : ∀ x ∈ xs, 0 ≤ x ∧ x ≤ 1000000) : Qt Tryz.prog F h (.int .i64 (sumN xs)) N_types_sum [v] := by
 have hl := fun g => hr.lenOf (slt_ints (gl := gl) (K := K)) g
 dsimp only [T_ints, T_int] at hl
 refine CallsT.body hP nix_sound E_types_sum rfl rfl ?_
 refine TW.seq (TW.reg hP (by simp <;> rfl) ?_)
 dsimp only [goK, thenQ, blockQ, roundL]
 refine TW.seq (TW.seq (TW.reg hP (by simp [hl] <;> rfl) ?_))
 dsimp only [goK, thenQ, blockQ, roundL]
 refine TW.block (TW.loopL (fun i : Nat => [(2, .int .i64 (sumN (xs.take i))), (5, v), (6, .int .i64 xs.length), (7, .int .i64 (i : Nat))]) (fun i k => i ≤ xs.length ∧ Wid h k) (fun i => xs.length - i) 0 (by repeat' first | exact less_nil | refine less_cons (by simp [sumN]) ?_) ⟨Nat.zero_le _, .refl _⟩ ?_)
 rintro i k ⟨hi, hw⟩
 refine TW.seq (TW.reg hP (by simp <;> rfl) ?_)
 dsimp only [goK, thenQ, blockQ, roundL]
 refine TW.seq (TW.cond hP rfl (fun hc' => TW.skip ?_) (fun hc' => TW.exit ?_))
 ·have hi' : i < xs.length := by simpa using hc'
  obtain ⟨p, hp1, hp2⟩ := (hr.wid hw).at' (slt_ints (gl := gl) (K := K)) (by simp) (q := .i64) hi'
  have hp2 := hp2 k (.refl _)
  dsimp only [T_ints, T_int] at hp1 hp2
  have h1 := sumN_bnd 1000000 (by omega) (xs.take i) fun x hx' => hx x (List.mem_of_mem_take hx')
  have h2 := hx xs[i] (List.getElem_mem hi')
  have h3 : (xs.take i).length ≤ 1000000 := by simp; omega
  have h4 := sumN_take xs i hi'
  dsimp only [thenQ]
  refine TW.seq (TW.block (TW.seq (TW.reg hP (by simp [hp1, hp2] <;> rfl) ?_)))
  dsimp only [goK, thenQ]
  refine TW.reg hP (by simp; simp (disch := omega) only [bAdd]; simp <;> rfl) ?_
  dsimp only [goK, thenQ, blockQ, roundL]
  refine TW.reg hP (by simp; simp (disch := omega) only [bAdd]; simp <;> rfl) ?_
  dsimp only [goK, thenQ, blockQ, roundL]
  refine ⟨i + 1, by omega, rfl, ?_, by omega, hw⟩
  repeat' first | exact less_nil | refine less_cons (by simp [h4]) ?_
 ·have hi' : i = xs.length := by simp at hc'; omega
  subst hi'
  dsimp only [thenQ, roundL, blockQ]
  refine TW.seq (TW.reg hP (by simp <;> rfl) ?_)
  dsimp only [goK, thenQ, blockQ, roundL]
  refine TW.ret ⟨.inr rfl, k, _, rfl, rfl, ?_, hw⟩
  simp [tupOf]
def plainS (x : LType) : Bool :=
 if x.kind = 1 then decide (x.elem = 0) && (decide (x.many = 0) && decide (x.parts.list.length = 0))
 else if x.kind = 2 then decide (x.many = 0) && decide (x.parts.list.length = 0)
 else if x.kind = 4 then decide (x.elem = 0) && decide (x.many = 0)
 else if x.kind = 3 then decide (x.many = 0)
 else if x.kind = 5 then decide (x.parts.list.length = 0) else true
theorem plain_pure (hP : POk Tryz.prog F gl K) (x : LType) : PureC Tryz.prog F N_types_plain [.agg x.cells] (.bool (plainS x)) := by
 refine CallsT.pure (O := fun v _ => v = .bool (plainS x)) (k := 1) (by simp) ?_ (fun v h e => by subst e; rfl)
 refine CallsT.body hP nix_sound E_types_plain rfl rfl ?_
 by_cases h1 : x.kind = 1
 ·by_cases he : x.elem = 0
  ·by_cases hm : x.many = 0
   ·repeat' first | refine TW.seq ?_ | refine TW.block ?_ | refine TW.exit ?_ | refine TW.condT hP rfl ?_ | (refine TW.reg hP (by simp [h1, he, hm] <;> rfl) ?_; dsimp only [goK]) | (refine TW.drawQ hP [] (fun e he => by cases he) (by kernel_rfl) (by simp <;> rfl) ?_; dsimp only) | simp only [thenQ]
    refine TW.ret ⟨.inr rfl, _, _, rfl, rfl, ?_⟩
    simp [tupOf, plainS, h1, he, hm]
   ·repeat' first | refine TW.seq ?_ | refine TW.block ?_ | refine TW.exit ?_ | refine TW.condT hP rfl ?_ | (refine TW.reg hP (by simp [h1, he] <;> rfl) ?_; dsimp only [goK]) | (refine TW.drawQ hP [] (fun e he => by cases he) (by kernel_rfl) (by simp [hm] <;> rfl) ?_; dsimp only) | simp only [thenQ]
    refine TW.ret ⟨.inr rfl, _, _, rfl, rfl, ?_⟩
    simp [tupOf, plainS, h1, he, hm]
  ·by_cases hm : x.many = 0
   ·repeat' first | refine TW.seq ?_ | refine TW.block ?_ | refine TW.exit ?_ | refine TW.condT hP rfl ?_ | (refine TW.reg hP (by simp [h1, he, hm] <;> rfl) ?_; dsimp only [goK]) | (refine TW.drawQ hP [] (fun e he => by cases he) (by kernel_rfl) (by simp <;> rfl) ?_; dsimp only) | simp only [thenQ]
    refine TW.ret ⟨.inr rfl, _, _, rfl, rfl, ?_⟩
    simp [tupOf, plainS, h1, he, hm]
   ·repeat' first | refine TW.seq ?_ | refine TW.block ?_ | refine TW.exit ?_ | refine TW.condT hP rfl ?_ | (refine TW.reg hP (by simp [h1, he] <;> rfl) ?_; dsimp only [goK]) | (refine TW.drawQ hP [] (fun e he => by cases he) (by kernel_rfl) (by simp [hm] <;> rfl) ?_; dsimp only) | simp only [thenQ]
    refine TW.ret ⟨.inr rfl, _, _, rfl, rfl, ?_⟩
    simp [tupOf, plainS, h1, he, hm]
 ·by_cases h2 : x.kind = 2
  ·by_cases hm : x.many = 0
   ·repeat' first | refine TW.seq ?_ | refine TW.block ?_ | refine TW.skip ?_ | refine TW.exit ?_ | refine TW.condT hP rfl ?_ | refine TW.condF hP rfl ?_ | (refine TW.reg hP (by simp [h2, hm] <;> rfl) ?_; dsimp only [goK]) | (refine TW.drawQ hP [] (fun e he => by cases he) (by kernel_rfl) (by simp <;> rfl) ?_; dsimp only) | simp only [thenQ]
    refine TW.ret ⟨.inr rfl, _, _, rfl, rfl, ?_⟩
    simp [tupOf, plainS, h2, hm]
   ·repeat' first | refine TW.seq ?_ | refine TW.block ?_ | refine TW.skip ?_ | refine TW.exit ?_ | refine TW.condT hP rfl ?_ | refine TW.condF hP rfl ?_ | (refine TW.reg hP (by simp [h2] <;> rfl) ?_; dsimp only [goK]) | (refine TW.drawQ hP [] (fun e he => by cases he) (by kernel_rfl) (by simp [hm] <;> rfl) ?_; dsimp only) | simp only [thenQ]
    refine TW.ret ⟨.inr rfl, _, _, rfl, rfl, ?_⟩
    simp [tupOf, plainS, h2, hm]
  ·by_cases h4 : x.kind = 4
   ·by_cases he : x.elem = 0
    ·by_cases hm : x.many = 0
     ·repeat' first | refine TW.seq ?_ | refine TW.block ?_ | refine TW.skip ?_ | refine TW.exit ?_ | refine TW.condT hP rfl ?_ | refine TW.condF hP rfl ?_ | (refine TW.reg hP (by simp [h4, he, hm] <;> rfl) ?_; dsimp only [goK]) | simp only [thenQ]
      refine TW.ret ⟨.inr rfl, _, _, rfl, rfl, ?_⟩
      simp [tupOf, plainS, h4, he, hm]
     ·repeat' first | refine TW.seq ?_ | refine TW.block ?_ | refine TW.skip ?_ | refine TW.exit ?_ | refine TW.condT hP rfl ?_ | refine TW.condF hP rfl ?_ | (refine TW.reg hP (by simp [h4, he, hm] <;> rfl) ?_; dsimp only [goK]) | simp only [thenQ]
      refine TW.ret ⟨.inr rfl, _, _, rfl, rfl, ?_⟩
      simp [tupOf, plainS, h4, he, hm]
    ·by_cases hm : x.many = 0
     ·repeat' first | refine TW.seq ?_ | refine TW.block ?_ | refine TW.skip ?_ | refine TW.exit ?_ | refine TW.condT hP rfl ?_ | refine TW.condF hP rfl ?_ | (refine TW.reg hP (by simp [h4, he, hm] <;> rfl) ?_; dsimp only [goK]) | simp only [thenQ]
      refine TW.ret ⟨.inr rfl, _, _, rfl, rfl, ?_⟩
      simp [tupOf, plainS, h4, he, hm]
     ·repeat' first | refine TW.seq ?_ | refine TW.block ?_ | refine TW.skip ?_ | refine TW.exit ?_ | refine TW.condT hP rfl ?_ | refine TW.condF hP rfl ?_ | (refine TW.reg hP (by simp [h4, he, hm] <;> rfl) ?_; dsimp only [goK]) | simp only [thenQ]
      refine TW.ret ⟨.inr rfl, _, _, rfl, rfl, ?_⟩
      simp [tupOf, plainS, h4, he, hm]
   ·by_cases h3 : x.kind = 3
    ·by_cases hm : x.many = 0
     ·repeat' first | refine TW.seq ?_ | refine TW.block ?_ | refine TW.skip ?_ | refine TW.exit ?_ | refine TW.condT hP rfl ?_ | refine TW.condF hP rfl ?_ | (refine TW.reg hP (by simp [h3, hm] <;> rfl) ?_; dsimp only [goK]) | simp only [thenQ]
      refine TW.ret ⟨.inr rfl, _, _, rfl, rfl, ?_⟩
      simp [tupOf, plainS, h3, hm]
     ·repeat' first | refine TW.seq ?_ | refine TW.block ?_ | refine TW.skip ?_ | refine TW.exit ?_ | refine TW.condT hP rfl ?_ | refine TW.condF hP rfl ?_ | (refine TW.reg hP (by simp [h3, hm] <;> rfl) ?_; dsimp only [goK]) | simp only [thenQ]
      refine TW.ret ⟨.inr rfl, _, _, rfl, rfl, ?_⟩
      simp [tupOf, plainS, h3, hm]
    ·by_cases h5 : x.kind = 5
     ·repeat' first | refine TW.seq ?_ | refine TW.block ?_ | refine TW.skip ?_ | refine TW.exit ?_ | refine TW.condT hP rfl ?_ | refine TW.condF hP rfl ?_ | (refine TW.reg hP (by simp [h5] <;> rfl) ?_; dsimp only [goK]) | simp only [thenQ]
      refine TW.ret ⟨.inr rfl, _, _, rfl, rfl, ?_⟩
      simp [tupOf, plainS, h5]
     ·repeat' first | refine TW.seq ?_ | refine TW.block ?_ | refine TW.skip ?_ | refine TW.exit ?_ | refine TW.condF hP rfl ?_ | (refine TW.reg hP (by simp [h1, h2, h4, h3, h5] <;> rfl) ?_; dsimp only [goK]) | simp only [thenQ]
      refine TW.ret ⟨.inr rfl, _, _, rfl, rfl, ?_⟩
      simp [tupOf, plainS, h1, h2, h4, h3, h5]
theorem IndexFunc_rd (hP : POk Tryz.prog F gl K) (v : AV) (xs : List Int) (g : FuncId) (cap : List AV) (p : Int → Bool) (hg : IsFn Tryz.prog g) (h : Hp) (hr : RdI h v xs) (hlen : xs.length < 1000000)
  (hc : ∀ x ∈ xs, ∀ h', Wid h h' → Qt Tryz.prog F h' (.bool (p x)) g ([.int .i64 x] ++ cap)) :
  Qt Tryz.prog F h (.int .i64 (idxP p xs)) N_slices_IndexFunc_int_int [v, .fn (.func g) [] cap] := by
 have hl := fun g => hr.lenOf (slt_ints (gl := gl) (K := K)) g
 dsimp only [T_ints, T_int] at hl
 refine CallsT.body hP nix_sound E_slices_IndexFunc_int_int rfl rfl ?_
 refine TW.seq (TW.reg hP (by simp <;> rfl) ?_)
 dsimp only [goK, thenQ, blockQ, roundL]
 refine TW.seq (TW.seq (TW.reg hP (by simp [hl] <;> rfl) ?_))
 dsimp only [goK, thenQ, blockQ, roundL]
 refine TW.block (TW.loopL (fun i : Nat => [(0, v), (1, .fn (.func g) [] cap), (7, .int .i64 xs.length), (8, .int .i64 (i : Nat))]) (fun i k => i ≤ xs.length ∧ (∀ j (hj : j < i) (hl : j < xs.length), p (xs[j]) = false) ∧ Wid h k) (fun i => xs.length - i) 0 (by repeat' first | exact less_nil | refine less_cons (by simp) ?_) ⟨Nat.zero_le _, fun j hj => absurd hj (Nat.not_lt_zero _), .refl _⟩ ?_)
 rintro i k ⟨hi, hno, hw⟩
 refine TW.seq (TW.reg hP (by simp <;> rfl) ?_)
 dsimp only [goK, thenQ, blockQ, roundL]
 refine TW.seq (TW.cond hP rfl (fun hc' => TW.skip ?_) (fun hc' => TW.exit ?_))
 ·have hi' : i < xs.length := by simpa using hc'
  obtain ⟨q, hp1, hp2⟩ := (hr.wid hw).at' (slt_ints (gl := gl) (K := K)) (by simp) (q := .i64) hi'
  have hp2 := hp2 k (.refl _)
  dsimp only [T_ints, T_int] at hp1 hp2
  dsimp only [thenQ]
  refine TW.seq (TW.block (TW.seq (TW.reg hP (by simp <;> rfl) ?_)))
  dsimp only [goK, thenQ]
  refine TW.seq (TW.reg hP (by simp [hp1, hp2] <;> rfl) ?_)
  dsimp only [goK, thenQ, blockQ, roundL]
  refine TO.qcall hP hg (hc xs[i] (List.getElem_mem hi') k hw) (by simp) rfl rfl rfl rfl fun k' hk' => ?_
  refine TO.runs hP (by simp <;> rfl) ?_
  dsimp only [goK, thenQ, blockQ, roundL]
  refine TW.cond hP rfl (fun hp => ?_) (fun hp => TW.skip ?_)
  ·refine TW.seq (TW.reg hP (by simp <;> rfl) ?_)
   dsimp only [goK, thenQ, blockQ, roundL]
   refine TW.ret ⟨.inr rfl, k', _, rfl, rfl, ?_, hw.trans hk'⟩
   simp only [tupOf, idxP]
   rw [List.findIdx?_eq_some_iff_getElem.2 ⟨hi', hp, fun j hj => by simp [hno j hj (by omega)]⟩]
  ·dsimp only [blockQ, thenQ]
   refine TW.reg hP (by simp; simp (disch := omega) only [bAdd]; simp <;> rfl) ?_
   dsimp only [goK, thenQ, blockQ, roundL]
   refine ⟨i + 1, by omega, rfl, ?_, by omega, fun j hj hl => ?_, hw.trans hk'⟩
   ·repeat' first | exact less_nil | refine less_cons (by simp) ?_
   ·by_cases he : j = i
    ·subst he; exact hp
    ·exact hno j (by omega) hl
 ·have hi' : ¬ i < xs.length := by simpa using hc'
  dsimp only [thenQ, roundL, blockQ]
  refine TW.seq (TW.reg hP (by simp <;> rfl) ?_)
  dsimp only [goK, thenQ, blockQ, roundL]
  refine TW.ret ⟨.inr rfl, k, _, rfl, rfl, ?_, hw⟩
  simp only [tupOf, idxP]
  rw [List.findIdx?_eq_none_iff.2 fun x hx => by
   obtain ⟨j, hj, rfl⟩ := List.getElem_of_mem hx
   exact hno j (by omega) hj]
theorem ContainsFunc_rd (hP : POk Tryz.prog F gl K) (v : AV) (xs : List Int) (g : FuncId) (cap : List AV) (p : Int → Bool) (hg : IsFn Tryz.prog g) (h : Hp) (hr : RdI h v xs) (hlen : xs.length < 1000000)
  (hc : ∀ x ∈ xs, ∀ h', Wid h h' → Qt Tryz.prog F h' (.bool (p x)) g ([.int .i64 x] ++ cap)) :
  Qt Tryz.prog F h (.bool (xs.any p)) N_slices_ContainsFunc_int_int [v, .fn (.func g) [] cap] := by
 refine CallsT.body hP nix_sound E_slices_ContainsFunc_int_int rfl rfl ?_
 refine TW.seq (TW.reg hP (by simp <;> rfl) ?_)
 dsimp only [goK, thenQ, blockQ, roundL]
 refine TW.seq (TW.reg hP (by simp <;> rfl) ?_)
 dsimp only [goK, thenQ, blockQ, roundL]
 refine TO.qcall hP I_slices_IndexFunc_int_int (IndexFunc_rd hP v xs g cap p hg h hr hlen hc) (by simp) rfl rfl rfl rfl fun k hk => ?_
 refine TO.runs hP (by simp <;> rfl) ?_
 dsimp only [goK, thenQ, blockQ, roundL]
 refine TW.ret ⟨.inr rfl, k, _, rfl, rfl, ?_, hk⟩
 rw [← idxP_any]; rfl
theorem there_qt (hP : POk Tryz.prog F gl K) (h : Hp) (most : Int) (v : AV) (xs : List Int) (hr : RdI h v xs) (hlen : xs.length < 1000000) : Qt Tryz.prog F h (.bool (thereS most xs)) N_types_there [.int .i64 most, v] := by
 refine CallsT.body hP nix_sound E_types_there rfl rfl ?_
 refine TW.seq (TW.reg hP (by simp <;> rfl) ?_)
 dsimp only [goK, thenQ, blockQ, roundL]
 refine TW.seq (TW.reg hP (by simp <;> rfl) ?_)
 dsimp only [goK, thenQ, blockQ, roundL]
 have hw : Wid h (h.new (.cells T_int [.int .i64 most])) := (Wid.refl h).new _
 refine TO.qcall hP I_slices_ContainsFunc_int_int (ContainsFunc_rd hP v xs N_types_there_1 [.ptr h.nx 0] (fun n => decide (n < 0) || decide (most ≤ n)) I_types_there_1 _ (hr.wid hw) hlen fun x _ h' hw => there1 hP most x h.nx T_int h' ((hw.at (o := .cells T_int [.int .i64 most]) (by simp) (by simp)))) (by simp) rfl rfl rfl rfl fun k hk => ?_
 refine TO.runs hP (by simp <;> rfl) ?_
 dsimp only [goK, thenQ, blockQ, roundL]
 refine TW.ret ⟨.inr rfl, k, _, rfl, rfl, ?_, hw.trans hk⟩
 simp only [tupOf, thereS]
 congr 1
 rw [List.not_any_eq_all_not]
 congr 1
 funext n
 by_cases h1 : n < 0 <;> by_cases h2 : most ≤ n <;> simp [h1, h2] <;> omega
def scAt (t : List LType) (n : Int) : Bool := match t[n.toNat]? with | some y => scalarS y | none => false
def mayS (t : List LType) (k : Nat) (sz : List Int) : Int × Bool :=
  match t[k]? with
  | none => (0, false)
  | some x =>
    if x.kind = 1 then (1, plainS x)
    else if x.kind = 2 then (1, plainS x && thereS t.length [x.elem])
    else if x.kind = 3 then (1, plainS x && (decide (x.parts.list.length ≤ 4) && (thereS t.length (x.elem :: x.parts.list) && (x.elem :: x.parts.list).all (scAt t))))
    else if x.kind = 4 then (if plainS x && thereS k x.parts.list = true then
      let s := sumN (x.parts.list.map fun n => sz.getD n.toNat 0)
      (s, decide (0 < x.parts.list.length) && (decide (x.parts.list.length ≤ 8) && decide (s ≤ 32))) else (0, false))
    else if x.kind = 5 then (if plainS x && (thereS k [x.elem] && (decide (1 ≤ x.many) && decide (x.many ≤ 16))) = true then
      let s := x.many * sz.getD x.elem.toNat 0
      (s, decide (s ≤ 32)) else (0, false))
    else (1, false)
theorem may1 (hP : POk Tryz.prog F gl K) (t : Sl LType) (n : Int) (r : Nat) (e : TypeId) (h : Hp) (hr : h.get r = some (.cells e [t.av LType.cells])) (hn : 0 ≤ n) (hn2 : n < t.list.length) :
  Qt Tryz.prog F h (.bool (!scAt t.list n)) N_types_may_1 [.int .i64 n, .ptr r 0] := by
 obtain ⟨i, rfl⟩ := Int.eq_ofNat_of_zero_le hn
 have hi : i < t.list.length := by omega
 have hx : t.list[i]? = some t.list[i] := List.getElem?_eq_getElem hi
 have hav := av_pos (e := LType.cells) (show 0 < t.list.length by omega)
 refine CallsT.body hP nix_sound E_types_may_1 rfl rfl ?_
 refine TW.seq (TW.reg hP (by simp <;> rfl) ?_)
 dsimp only [goK, thenQ, blockQ, roundL]
 refine TW.seq (TW.reg hP (by simp [hr, hav, hx] <;> rfl) ?_)
 dsimp only [goK, thenQ, blockQ, roundL]
 refine TO.scall hP I_types_scalar (scalar_pure hP t.list[i]) (by simp) rfl rfl rfl rfl ?_
 refine TO.runs hP (by simp <;> rfl) ?_
 dsimp only [goK, thenQ, blockQ, roundL]
 refine TW.ret ⟨.inr rfl, h, _, rfl, rfl, ?_, .refl _⟩
 simp [tupOf, scAt, hx]
theorem may_qt (hP : POk Tryz.prog F gl K) (h : Hp) (t : Sl LType) (k : Nat) (v : AV) (sz : List Int) (hr : RdI h v sz) (hk : k < t.list.length) (hsz : sz.length = k) (hs : ∀ n ∈ sz, 0 ≤ n ∧ n ≤ 1000) (hlt : t.list.length < 1000000) (hp : ∀ x ∈ t.list, x.parts.list.length < 900000) :
    Qt Tryz.prog F h (.tup [.int .i64 (mayS t.list k sz).1, .bool (mayS t.list k sz).2]) N_types_may [t.av LType.cells, .int .i64 (k : Nat), v] := by
  obtain ⟨x, hx⟩ : ∃ x, t.list[k]? = some x := ⟨_, List.getElem?_eq_getElem hk⟩
  have hpx := hp x (List.mem_of_getElem? hx)
  have hav := av_pos (e := LType.cells) (show 0 < t.list.length by omega)
  have hw0 := Wid.refl h
  refine CallsT.body hP nix_sound E_types_may rfl rfl ?_
  refine TW.seq (TW.reg hP (by simp <;> rfl) ?_)
  dsimp only [goK, thenQ, blockQ, roundL]
  refine TW.seq (TW.reg hP (by simp [hx, hav] <;> rfl) ?_)
  dsimp only [goK, thenQ, blockQ, roundL]
  refine TW.seq (TW.reg hP (by simp <;> rfl) ?_)
  dsimp only [goK, thenQ, blockQ, roundL]
  refine TO.scall hP I_types_plain (plain_pure hP x) (by simp) rfl rfl rfl rfl ?_
  refine TO.runs hP (by simp <;> rfl) ?_
  dsimp only [goK, thenQ, blockQ, roundL]
  refine TW.gen (fun g => g.get h.nx = some (.cells T_types [t.av LType.cells]) ∧ g.get (h.nx + 1) = some (.cells T_type x.cells) ∧ g.nx = h.nx + 2 ∧ Wid h g) ⟨by simp [hav], by simp, by simp, by (repeat' first | exact Wid.refl _ | refine Wid.new ?_ _ | refine Wid.put ?_ (by simp) _)⟩ fun g hg => ?_
  obtain ⟨g1, g2, g3, g4⟩ := hg
  dsimp only [T_types, T_type] at g1 g2
  rw [hav] at g1
  simp only [LType.cells] at g2
  cases hpl : plainS x with
  | false =>
    by_cases h1 : x.kind = 1
    · repeat' first | refine TW.seq ?_ | refine TW.block ?_ | refine TW.skip ?_ | refine TW.condT hP rfl ?_ | (refine TW.reg hP (by simp [h1, g2] <;> rfl) ?_; dsimp only [goK]) | simp only [thenQ]
      refine TW.ret ⟨.inr rfl, _, _, rfl, rfl, ?_⟩
      refine ⟨?_, ?_⟩
      · simp [tupOf, mayS, hx, h1, hpl]
      · repeat' first | exact g4
    · by_cases h2 : x.kind = 2
      · repeat' first | refine TW.seq ?_ | refine TW.block ?_ | refine TW.condT hP rfl ?_ | refine TW.condF hP rfl ?_ | (refine TW.reg hP (by simp [h2, g1, g2] <;> rfl) ?_; dsimp only [goK]) | (refine TO.left ?_ rfl rfl ?_; (focus (simp; done)); refine TO.runs hP (by simp <;> rfl) ?_; dsimp only [goK]) | simp only [thenQ]
        refine TW.ret ⟨.inr rfl, _, _, rfl, rfl, ?_⟩
        refine ⟨?_, ?_⟩
        · simp [tupOf, mayS, hx, h2, hpl]
        · repeat' first | exact g4
      · by_cases h3 : x.kind = 3
        · obtain ⟨v', k', happ, hrd, hget, hnx⟩ := app_lit (h := g.new (.cells T_int [.int .i64 x.elem])) (slt_ints (gl := gl) (K := K)) (q := g.nx) (x := x.elem) (by simp) (by simp) (rdI_av _ x.parts) (by omega)
          dsimp only [T_ints, T_int] at happ
          rw [g3] at happ
          repeat' first | refine TW.seq ?_ | refine TW.block ?_ | refine TW.condT hP rfl ?_ | refine TW.condF hP rfl ?_ | (refine TW.reg hP (by simp [h3, g2, g3, happ] <;> rfl) ?_; dsimp only [goK]) | (refine TO.left ?_ rfl rfl ?_; (focus (simp; done)); refine TO.runs hP (by simp <;> rfl) ?_; dsimp only [goK]) | simp only [thenQ]
          refine TW.ret ⟨.inr rfl, _, _, rfl, rfl, ?_⟩
          refine ⟨?_, ?_⟩
          · simp [tupOf, mayS, hx, h3, hpl]
          · exact Wid.trans (g4.new _) ⟨hnx, hget⟩
        · by_cases h4 : x.kind = 4
          · repeat' first | refine TW.seq ?_ | refine TW.block ?_ | refine TW.condT hP rfl ?_ | refine TW.condF hP rfl ?_ | (refine TW.reg hP (by simp [h4, g2] <;> rfl) ?_; dsimp only [goK]) | (refine TO.left ?_ rfl rfl ?_; (focus (simp; done)); refine TO.runs hP (by simp <;> rfl) ?_; dsimp only [goK]) | simp only [thenQ]
            refine TW.ret ⟨.inr rfl, _, _, rfl, rfl, ?_⟩
            refine ⟨?_, ?_⟩
            · simp [tupOf, mayS, hx, h4, hpl]
            · repeat' first | exact g4
          · by_cases h5 : x.kind = 5
            · repeat' first | refine TW.seq ?_ | refine TW.block ?_ | refine TW.condT hP rfl ?_ | refine TW.condF hP rfl ?_ | (refine TW.reg hP (by simp [h5, g2] <;> rfl) ?_; dsimp only [goK]) | (refine TO.left ?_ rfl rfl ?_; (focus (simp; done)); refine TO.runs hP (by simp <;> rfl) ?_; dsimp only [goK]) | simp only [thenQ]
              refine TW.ret ⟨.inr rfl, _, _, rfl, rfl, ?_⟩
              refine ⟨?_, ?_⟩
              · simp [tupOf, mayS, hx, h5, hpl]
              · repeat' first | exact g4
            · repeat' first | refine TW.seq ?_ | refine TW.block ?_ | refine TW.condF hP rfl ?_ | (refine TW.reg hP (by simp [h1, h2, h3, h4, h5, g2] <;> rfl) ?_; dsimp only [goK]) | simp only [thenQ]
              refine TW.ret ⟨.inr rfl, _, _, rfl, rfl, ?_⟩
              refine ⟨?_, ?_⟩
              · simp [tupOf, mayS, hx, h1, h2, h3, h4, h5]
              · repeat' first | exact g4
  | true =>
    by_cases h1 : x.kind = 1
    · repeat' first | refine TW.seq ?_ | refine TW.block ?_ | refine TW.skip ?_ | refine TW.condT hP rfl ?_ | (refine TW.reg hP (by simp [h1, g2] <;> rfl) ?_; dsimp only [goK]) | simp only [thenQ]
      refine TW.ret ⟨.inr rfl, _, _, rfl, rfl, ?_⟩
      refine ⟨?_, ?_⟩
      · simp [tupOf, mayS, hx, h1, hpl]
      · repeat' first | exact g4
    · by_cases h2 : x.kind = 2
      · repeat' first | refine TW.seq ?_ | refine TW.block ?_ | refine TW.condT hP rfl ?_ | refine TW.condF hP rfl ?_ | (refine TW.reg hP (by simp [h2, g1, g2, g3] <;> rfl) ?_; dsimp only [goK])
        refine TO.qcall hP I_types_there (there_qt hP _ t.list.length _ [x.elem] (rdI_lit (e := T_int) (by simp [g3]) (by simp [g3])) (by simp)) (by simp) rfl rfl rfl rfl fun k2 hk2 => ?_
        refine TO.runs hP (by simp <;> rfl) ?_
        dsimp only [goK, thenQ, blockQ, roundL]
        have w2 : Wid h k2 := Wid.trans (g4.new _) hk2
        cases hth : thereS t.list.length [x.elem] with
        | false =>
          repeat' first | refine TW.seq ?_ | (refine TW.reg hP (by simp <;> rfl) ?_; dsimp only [goK]) | simp only [thenQ]
          refine TW.ret ⟨.inr rfl, _, _, rfl, rfl, ?_⟩
          refine ⟨?_, ?_⟩
          · simp [tupOf, mayS, hx, h2, hpl, hth]
          · exact w2
        | true =>
          repeat' first | refine TW.seq ?_ | (refine TW.reg hP (by simp <;> rfl) ?_; dsimp only [goK]) | simp only [thenQ]
          refine TW.ret ⟨.inr rfl, _, _, rfl, rfl, ?_⟩
          refine ⟨?_, ?_⟩
          · simp [tupOf, mayS, hx, h2, hpl, hth]
          · exact w2
      · by_cases h3 : x.kind = 3
        · obtain ⟨v', k', happ, hrd, hget, hnx⟩ := app_lit (h := g.new (.cells T_int [.int .i64 x.elem])) (slt_ints (gl := gl) (K := K)) (q := g.nx) (x := x.elem) (by simp) (by simp) (rdI_av _ x.parts) (by omega)
          have w1 : Wid g k' := Wid.trans ((Wid.refl g).new _) ⟨hnx, hget⟩
          dsimp only [T_ints, T_int] at happ
          rw [g3] at happ
          have k1 := w1.at g1 (by omega)
          have k2 := w1.at g2 (by omega)
          by_cases hl4 : (x.parts.list.length : Int) ≤ 4
          · repeat' first | refine TW.seq ?_ | refine TW.block ?_ | refine TW.condT hP rfl ?_ | refine TW.condF hP rfl ?_ | (refine TW.reg hP (by simp [h3, g2, g3, happ, k1, k2, hl4] <;> rfl) ?_; dsimp only [goK])
            have hl4' : x.parts.list.length ≤ 4 := by omega
            refine TO.qcall hP I_types_there (there_qt hP _ t.list.length _ _ hrd (by simp; omega)) (by simp) rfl rfl rfl rfl fun k3 hk3 => ?_
            have w3 := w1.trans hk3
            have m1 := w3.at g1 (by omega)
            cases hth : thereS t.list.length (x.elem :: x.parts.list) with
            | false =>
              refine TO.runs hP (by simp <;> rfl) ?_
              dsimp only [goK, thenQ, blockQ, roundL]
              repeat' first | refine TW.seq ?_ | (refine TW.reg hP (by simp <;> rfl) ?_; dsimp only [goK]) | (refine TO.left ?_ rfl rfl ?_; (focus (simp; done)); refine TO.runs hP (by simp <;> rfl) ?_; dsimp only [goK]) | simp only [thenQ]
              refine TW.ret ⟨.inr rfl, _, _, rfl, rfl, ?_⟩
              refine ⟨?_, ?_⟩
              · simp [tupOf, mayS, hx, h3, hpl, hl4', hth]
              · exact g4.trans w3
            | true =>
              refine TO.runs hP (by simp <;> rfl) ?_
              dsimp only [goK, thenQ, blockQ, roundL]
              have hin : ∀ n ∈ x.elem :: x.parts.list, 0 ≤ n ∧ n < t.list.length := fun n hn => by
                have := List.all_eq_true.1 hth n hn
                simpa using this
              refine TO.qcall hP I_slices_ContainsFunc_int_int (ContainsFunc_rd hP _ _ N_types_may_1 [.ptr h.nx 0] (fun n => !scAt t.list n) I_types_may_1 _ (hrd.wid hk3) (by simp; omega) fun n hn h' hw => may1 hP t n h.nx T_types h' (by rw [hav]; exact hw.at m1 (by have := w3.nx; omega)) (hin n hn).1 (hin n hn).2) (by simp) rfl rfl rfl rfl fun k4 hk4 => ?_
              have e5 : ((x.elem :: x.parts.list).any fun n => !scAt t.list n) = !((x.elem :: x.parts.list).all (scAt t.list)) := by
                rw [List.not_all_eq_any_not]
              rw [e5]
              have e6 : (mayS t.list k sz) = ((1 : Int), ((x.elem :: x.parts.list).all (scAt t.list))) := by
                simp [mayS, hx, h3, hpl, hl4', hth]
              rw [e6]
              cases ((x.elem :: x.parts.list).all (scAt t.list)) with
              | false =>
                refine TO.runs hP (by simp <;> rfl) ?_
                dsimp only [goK, thenQ, blockQ, roundL]
                repeat' first | refine TW.seq ?_ | (refine TW.reg hP (by simp <;> rfl) ?_; dsimp only [goK]) | simp only [thenQ]
                refine TW.ret ⟨.inr rfl, _, _, rfl, rfl, ?_⟩
                refine ⟨?_, ?_⟩
                · rfl
                · exact g4.trans (w3.trans hk4)
              | true =>
                refine TO.runs hP (by simp <;> rfl) ?_
                dsimp only [goK, thenQ, blockQ, roundL]
                repeat' first | refine TW.seq ?_ | (refine TW.reg hP (by simp <;> rfl) ?_; dsimp only [goK]) | simp only [thenQ]
                refine TW.ret ⟨.inr rfl, _, _, rfl, rfl, ?_⟩
                refine ⟨?_, ?_⟩
                · rfl
                · exact g4.trans (w3.trans hk4)
          · have hl4' : ¬ x.parts.list.length ≤ 4 := by omega
            repeat' first | refine TW.seq ?_ | refine TW.block ?_ | refine TW.condT hP rfl ?_ | refine TW.condF hP rfl ?_ | (refine TW.reg hP (by simp [h3, g2, g3, happ, k1, k2, hl4] <;> rfl) ?_; dsimp only [goK]) | (refine TO.left ?_ rfl rfl ?_; (focus (simp; done)); refine TO.runs hP (by simp <;> rfl) ?_; dsimp only [goK]) | simp only [thenQ]
            refine TW.ret ⟨.inr rfl, _, _, rfl, rfl, ?_⟩
            refine ⟨?_, ?_⟩
            · simp [tupOf, mayS, hx, h3, hpl, hl4']
            · exact g4.trans w1
        · by_cases h4 : x.kind = 4
          · repeat' first | refine TW.seq ?_ | refine TW.block ?_ | refine TW.condT hP rfl ?_ | refine TW.condF hP rfl ?_ | (refine TW.reg hP (by simp [h4, g2] <;> rfl) ?_; dsimp only [goK])
            refine TO.qcall hP I_types_there (there_qt hP _ k _ x.parts.list (rdI_av _ _) (by omega)) (by simp) rfl rfl rfl rfl fun k2 hk2 => ?_
            refine TO.runs hP (by simp <;> rfl) ?_
            dsimp only [goK, thenQ, blockQ, roundL]
            cases hth : thereS k x.parts.list with
            | false =>
              repeat' first | refine TW.seq ?_ | refine TW.condT hP rfl ?_ | (refine TW.reg hP (by simp <;> rfl) ?_; dsimp only [goK]) | simp only [thenQ]
              refine TW.ret ⟨.inr rfl, _, _, rfl, rfl, ?_⟩
              refine ⟨?_, ?_⟩
              · simp [tupOf, mayS, hx, h4, hpl, hth]
              · exact g4.trans hk2
            | true =>
              have k8 := hk2.at g2 (by omega)
              have hin : ∀ n ∈ x.parts.list, 0 ≤ n ∧ n < k := fun n hn => by
                have := List.all_eq_true.1 hth n hn
                simpa using this
              have rk := (hr.wid g4).wid hk2
              repeat' first | refine TW.seq ?_ | refine TW.block ?_ | refine TW.skip ?_ | refine TW.condF hP rfl ?_ | (refine TW.reg hP (by simp [k8] <;> rfl) ?_; dsimp only [goK])
              refine TW.loopL (fun p : Nat × AV => [(2, v), (12, p.2), (75, x.parts.av cI), (76, .int .i64 x.parts.list.length), (77, .int .i64 (p.1 : Nat))])
                (fun p g' => p.1 ≤ x.parts.list.length ∧ Own 1 T_int k2.nx g' p.2 ((x.parts.list.take p.1).map fun n => [.int .i64 (sz.getD n.toNat 0)]) ∧ WidB k2.nx k2 g') (fun p => x.parts.list.length - p.1) (0, .nilsl) ?_ ⟨Nat.zero_le _, .nil, .refl _ _⟩ ?_
              · repeat' first | exact less_nil | refine less_cons (by simp) ?_
              rintro ⟨i, lv⟩ g' ⟨hi, hown, hwb⟩
              dsimp only at hi hown ⊢
              refine TW.seq (TW.reg hP (by simp <;> rfl) ?_)
              dsimp only [goK, thenQ, blockQ, roundL]
              refine TW.seq (TW.cond hP rfl (fun hc => TW.skip ?_) (fun hc => TW.exit ?_))
              · have hi' : i < x.parts.list.length := by simpa using hc
                have hxi : x.parts.list[i]? = some x.parts.list[i] := List.getElem?_eq_getElem hi'
                have hpv := av_pos (e := cI) (show 0 < x.parts.list.length by omega)
                obtain ⟨m, hm⟩ := Int.eq_ofNat_of_zero_le (hin _ (List.getElem_mem hi')).1
                have hm2 : m < sz.length := by have := (hin _ (List.getElem_mem hi')).2; omega
                obtain ⟨q, hp1, hp2⟩ := rk.at' (slt_ints (gl := gl) (K := K)) (by simp) (q := .i64) hm2
                have hp2 := hp2 g' ⟨hwb.nx, hwb.get⟩
                dsimp only [T_ints, T_int] at hp1 hp2
                rw [hm] at hxi
                have hgd : sz.getD m 0 = sz[m] := by simp [List.getD_eq_getElem?_getD, hm2]
                obtain ⟨lv', k', happ, hown', hwb', hnx⟩ := hown.push (row := [.int .i64 sz[m]]) (slt_ints (gl := gl) (K := K)) (fun c hc => by obtain ⟨_, _, rfl⟩ := List.mem_map.1 hc; rfl) rfl rfl (by simp; omega) hwb.nx
                dsimp only [T_ints, T_int] at happ hown'
                dsimp only [thenQ]
                refine TW.seq (TW.block (TW.seq (TW.reg hP (by simp [hxi, hpv] <;> rfl) ?_)))
                dsimp only [goK, thenQ]
                refine TW.reg hP (by simp [hp1, hp2, happ] <;> rfl) ?_
                dsimp only [goK, thenQ, blockQ]
                refine TW.reg hP (by simp; simp (disch := omega) only [bAdd]; simp <;> rfl) ?_
                dsimp only [goK, thenQ, blockQ, roundL]
                refine ⟨(i + 1, lv'), by dsimp only; omega, rfl, ?_, by dsimp only; omega, ?_, hwb.trans hwb'⟩
                · repeat' first | exact less_nil | refine less_cons (by simp [hpv]) ?_
                · dsimp only
                  rw [List.take_succ_eq_append_getElem hi', List.map_append, hm]
                  simpa [List.getElem?_eq_getElem hm2] using hown'
              · have hi' : i = x.parts.list.length := by simp at hc; omega
                subst hi'
                dsimp only [thenQ, roundL, blockQ]
                rw [List.take_length] at hown
                simp only [↓reduceIte]
                have e7 : (x.parts.list.map fun n => [AV.int .i64 (sz.getD n.toNat 0)]) = (x.parts.list.map fun n => sz.getD n.toNat 0).map fun n => [AV.int .i64 n] := by rw [List.map_map]; rfl
                rw [e7] at hown
                have hro := hown.rdI
                have hl := fun g => hro.lenOf (slt_ints (gl := gl) (K := K)) g
                dsimp only [T_ints, T_int] at hl
                rw [List.length_map] at hl
                have hsm : ∀ n ∈ x.parts.list.map (fun n => sz.getD n.toNat 0), 0 ≤ n ∧ n ≤ 1000 := fun n hn => by
                  obtain ⟨y, hy, rfl⟩ := List.mem_map.1 hn
                  obtain ⟨m, hm⟩ := Int.eq_ofNat_of_zero_le (hin _ hy).1
                  have hm2 : m < sz.length := by have := (hin _ hy).2; omega
                  have : sz.getD y.toNat 0 = sz[m] := by rw [hm]; simp [List.getD_eq_getElem?_getD, hm2]
                  rw [this]; exact hs _ (List.getElem_mem hm2)
                have wk : Wid h g' := ⟨by have := g4.nx; have := hk2.nx; have := hwb.nx; omega, fun r hr => by rw [hwb.get r (by have := g4.nx; have := hk2.nx; omega), hk2.get r (by have := g4.nx; omega), g4.get r hr]⟩
                by_cases hq0 : 0 < x.parts.list.length
                · by_cases hq8 : (x.parts.list.length : Int) ≤ 8
                  · have hq8' : x.parts.list.length ≤ 8 := by omega
                    refine TW.reg hP (by simp [hl, hq0, hq8] <;> rfl) ?_
                    dsimp only [goK]
                    refine TO.qcall hP I_types_sum (sum_qt hP _ lv _ hro (by simp; omega) (fun n hn => by have := hsm n hn; omega)) (by simp) rfl rfl rfl rfl fun k3 hk3 => ?_
                    refine TO.runs hP (by simp <;> rfl) ?_
                    dsimp only [goK, thenQ, blockQ, roundL]
                    by_cases hs32 : sumN (x.parts.list.map fun n => sz.getD n.toNat 0) ≤ 32
                    · repeat' first | refine TW.seq ?_ | (refine TW.reg hP (by simp <;> rfl) ?_; dsimp only [goK]) | simp only [thenQ]
                      refine TW.ret ⟨.inr rfl, _, _, rfl, rfl, ?_⟩
                      refine ⟨?_, ?_⟩
                      · simp [tupOf, mayS, hx, h4, hpl, hth, hq0, hq8'] <;> simpa using hs32
                      · exact wk.trans hk3
                    · repeat' first | refine TW.seq ?_ | (refine TW.reg hP (by simp <;> rfl) ?_; dsimp only [goK]) | simp only [thenQ]
                      refine TW.ret ⟨.inr rfl, _, _, rfl, rfl, ?_⟩
                      refine ⟨?_, ?_⟩
                      · simp [tupOf, mayS, hx, h4, hpl, hth, hq0, hq8'] <;> simpa using hs32
                      · exact wk.trans hk3
                  · have hq8' : ¬ x.parts.list.length ≤ 8 := by omega
                    refine TW.reg hP (by simp [hl, hq0, hq8] <;> rfl) ?_
                    dsimp only [goK]
                    refine TO.qcall hP I_types_sum (sum_qt hP _ lv _ hro (by simp; omega) (fun n hn => by have := hsm n hn; omega)) (by simp) rfl rfl rfl rfl fun k3 hk3 => ?_
                    refine TO.runs hP (by simp <;> rfl) ?_
                    dsimp only [goK, thenQ, blockQ, roundL]
                    by_cases hs32 : sumN (x.parts.list.map fun n => sz.getD n.toNat 0) ≤ 32
                    · repeat' first | refine TW.seq ?_ | (refine TW.reg hP (by simp <;> rfl) ?_; dsimp only [goK]) | simp only [thenQ]
                      refine TW.ret ⟨.inr rfl, _, _, rfl, rfl, ?_⟩
                      refine ⟨?_, ?_⟩
                      · simp [tupOf, mayS, hx, h4, hpl, hth, hq0, hq8'] <;> simpa using hs32
                      · exact wk.trans hk3
                    · repeat' first | refine TW.seq ?_ | (refine TW.reg hP (by simp <;> rfl) ?_; dsimp only [goK]) | simp only [thenQ]
                      refine TW.ret ⟨.inr rfl, _, _, rfl, rfl, ?_⟩
                      refine ⟨?_, ?_⟩
                      · simp [tupOf, mayS, hx, h4, hpl, hth, hq0, hq8'] <;> simpa using hs32
                      · exact wk.trans hk3
                · have hq0' : x.parts.list.length = 0 := by omega
                  refine TW.reg hP (by simp [hl, hq0'] <;> rfl) ?_
                  dsimp only [goK]
                  refine TO.qcall hP I_types_sum (sum_qt hP _ lv _ hro (by simp; omega) (fun n hn => by have := hsm n hn; omega)) (by simp) rfl rfl rfl rfl fun k3 hk3 => ?_
                  refine TO.runs hP (by simp <;> rfl) ?_
                  dsimp only [goK, thenQ, blockQ, roundL]
                  by_cases hs32 : sumN (x.parts.list.map fun n => sz.getD n.toNat 0) ≤ 32
                  · repeat' first | refine TW.seq ?_ | (refine TW.reg hP (by simp <;> rfl) ?_; dsimp only [goK]) | simp only [thenQ]
                    refine TW.ret ⟨.inr rfl, _, _, rfl, rfl, ?_⟩
                    refine ⟨?_, ?_⟩
                    · simp [tupOf, mayS, hx, h4, hpl, hth, hq0'] <;> simpa using hs32
                    · exact wk.trans hk3
                  · repeat' first | refine TW.seq ?_ | (refine TW.reg hP (by simp <;> rfl) ?_; dsimp only [goK]) | simp only [thenQ]
                    refine TW.ret ⟨.inr rfl, _, _, rfl, rfl, ?_⟩
                    refine ⟨?_, ?_⟩
                    · simp [tupOf, mayS, hx, h4, hpl, hth, hq0'] <;> simpa using hs32
                    · exact wk.trans hk3
          · by_cases h5 : x.kind = 5
            · repeat' first | refine TW.seq ?_ | refine TW.block ?_ | refine TW.condT hP rfl ?_ | refine TW.condF hP rfl ?_ | (refine TW.reg hP (by simp [h5, g2, g3] <;> rfl) ?_; dsimp only [goK])
              refine TO.qcall hP I_types_there (there_qt hP _ k _ [x.elem] (rdI_lit (e := T_int) (by simp [g3]) (by simp [g3])) (by simp)) (by simp) rfl rfl rfl rfl fun k2 hk2 => ?_
              have w2 : Wid g k2 := Wid.trans ((Wid.refl g).new _) hk2
              have k8 := w2.at g2 (by omega)
              cases hth : thereS k [x.elem] with
              | false =>
                refine TO.runs hP (by simp <;> rfl) ?_
                dsimp only [goK, thenQ, blockQ, roundL]
                repeat' first | refine TW.seq ?_ | refine TW.condT hP rfl ?_ | (refine TW.reg hP (by simp <;> rfl) ?_; dsimp only [goK]) | simp only [thenQ]
                refine TW.ret ⟨.inr rfl, _, _, rfl, rfl, ?_⟩
                refine ⟨?_, ?_⟩
                · simp [tupOf, mayS, hx, h5, hpl, hth]
                · exact g4.trans w2
              | true =>
                by_cases hm1 : 1 ≤ x.many
                · by_cases hm2 : x.many ≤ 16
                  · have hin : 0 ≤ x.elem ∧ x.elem < k := by simpa [thereS] using hth
                    obtain ⟨i, hi⟩ := Int.eq_ofNat_of_zero_le hin.1
                    have hi2 : i < sz.length := by omega
                    have hsi := hs sz[i] (List.getElem_mem hi2)
                    obtain ⟨q, hp1, hp2⟩ := (hr.wid (g4.trans w2)).at' (slt_ints (gl := gl) (K := K)) (by simp) (q := .i64) hi2
                    dsimp only [T_ints, T_int] at hp1 hp2
                    have hb1 : 0 ≤ x.many * sz[i] := Int.mul_nonneg (by omega) hsi.1
                    have hb2 : x.many * sz[i] ≤ 16 * 1000 := Int.mul_le_mul hm2 hsi.2 hsi.1 (by omega)
                    have hbm := bMul (C := Ctx.of Tryz.prog gl (K.tell [])) (t := 3) (a := x.many) (b := sz[i]) (by omega) (by omega)
                    have hp1' : indexAt (Ctx.of Tryz.prog gl (K.tell [])) T_ints v (.int .i64 (i : Nat)) = some q := hp1
                    dsimp only [T_ints] at hp1'
                    have hp2' : ∀ g, Wid k2 g → loadAt (Ctx.of Tryz.prog gl (K.tell [])) 3 q g = some (.int .i64 sz[i]) := hp2
                    have hp3 := hp2' _ (Wid.refl _).z
                    rw [hi] at k8
                    refine TO.runs hP (by simp [k8, hm1, hm2] <;> rfl) ?_
                    dsimp only [goK, thenQ, blockQ, roundL]
                    refine TW.seq (TW.reg hP (by simp <;> rfl) ?_)
                    dsimp only [goK, thenQ, blockQ, roundL]
                    refine TW.condF hP rfl (TW.skip ?_)
                    dsimp only [thenQ]
                    refine TW.drawQ hP [] (fun e he => by cases he) (by kernel_rfl) (by simp [k8, hp1', hp3, hbm] <;> rfl) ?_
                    dsimp only
                    have hgd : sz.getD x.elem.toNat 0 = sz[i] := by rw [hi]; simp [List.getD_eq_getElem?_getD, hi2]
                    by_cases hs32 : x.many * sz[i] ≤ 32
                    · repeat' first | refine TW.seq ?_ | (refine TW.reg hP (by simp [hs32] <;> rfl) ?_; dsimp only [goK]) | simp only [thenQ]
                      refine TW.ret ⟨.inr rfl, _, _, rfl, rfl, ?_⟩
                      refine ⟨?_, ?_⟩
                      · simp only [tupOf, mayS, hx, h5, hpl, hth, hm1, hm2, hgd]; simp [hs32]
                      · exact g4.trans w2.z
                    · repeat' first | refine TW.seq ?_ | (refine TW.reg hP (by simp [hs32] <;> rfl) ?_; dsimp only [goK]) | simp only [thenQ]
                      refine TW.ret ⟨.inr rfl, _, _, rfl, rfl, ?_⟩
                      refine ⟨?_, ?_⟩
                      · simp only [tupOf, mayS, hx, h5, hpl, hth, hm1, hm2, hgd]; simp [hs32]
                      · exact g4.trans w2.z
                  · refine TO.runs hP (by simp [k8, hm1, hm2] <;> rfl) ?_
                    dsimp only [goK, thenQ, blockQ, roundL]
                    repeat' first | refine TW.seq ?_ | refine TW.condT hP rfl ?_ | (refine TW.reg hP (by simp <;> rfl) ?_; dsimp only [goK]) | simp only [thenQ]
                    refine TW.ret ⟨.inr rfl, _, _, rfl, rfl, ?_⟩
                    refine ⟨?_, ?_⟩
                    · simp [tupOf, mayS, hx, h5, hpl, hth, hm1, hm2]
                    · exact g4.trans w2
                · refine TO.runs hP (by simp [k8, hm1] <;> rfl) ?_
                  dsimp only [goK, thenQ, blockQ, roundL]
                  repeat' first | refine TW.seq ?_ | refine TW.condT hP rfl ?_ | (refine TW.reg hP (by simp <;> rfl) ?_; dsimp only [goK]) | simp only [thenQ]
                  refine TW.ret ⟨.inr rfl, _, _, rfl, rfl, ?_⟩
                  refine ⟨?_, ?_⟩
                  · simp [tupOf, mayS, hx, h5, hpl, hth, hm1]
                  · exact g4.trans w2
            · repeat' first | refine TW.seq ?_ | refine TW.block ?_ | refine TW.condF hP rfl ?_ | (refine TW.reg hP (by simp [h1, h2, h3, h4, h5, g2] <;> rfl) ?_; dsimp only [goK]) | simp only [thenQ]
              refine TW.ret ⟨.inr rfl, _, _, rfl, rfl, ?_⟩
              refine ⟨?_, ?_⟩
              · simp [tupOf, mayS, hx, h1, h2, h3, h4, h5]
              · repeat' first | exact g4
def typesGo (t : List LType) : Nat → List Int → Option (List Int)
 | 0, sz => some sz
 | n + 1, sz => if (mayS t sz.length sz).2 = true then typesGo t n (sz ++ [(mayS t sz.length sz).1]) else none
def typesE (t : List LType) : Int := if 16 < t.length then 4 else match typesGo t t.length [] with | some _ => 0 | none => 30
theorem mayS_bnd {t : List LType} {k : Nat} {sz : List Int} (hs : ∀ n ∈ sz, 0 ≤ n ∧ n ≤ 1000) (h : (mayS t k sz).2 = true) : 0 ≤ (mayS t k sz).1 ∧ (mayS t k sz).1 ≤ 32 := by
  have hg : ∀ i, 0 ≤ sz.getD i 0 := fun i => by
    rw [List.getD_eq_getElem?_getD]
    cases hi : sz[i]? with
    | none => exact Int.le_refl _
    | some x => exact (hs x (List.mem_of_getElem? hi)).1
  have hsum : ∀ (f : Int → Int) (l : List Int), (∀ n, 0 ≤ f n) → 0 ≤ sumN (l.map f) := fun f l hf => by
    induction l with
    | nil => exact Int.le_refl _
    | cons a l ih => have := hf a; simp only [List.map_cons, sumN]; omega
  unfold mayS at h ⊢
  cases ht : t[k]? with
  | none => rw [ht] at h; cases h
  | some x =>
    rw [ht] at h
    dsimp only at h ⊢
    split
    · exact ⟨show (0 : Int) ≤ 1 by decide, show (1 : Int) ≤ 32 by decide⟩
    split
    · exact ⟨show (0 : Int) ≤ 1 by decide, show (1 : Int) ≤ 32 by decide⟩
    split
    · exact ⟨show (0 : Int) ≤ 1 by decide, show (1 : Int) ≤ 32 by decide⟩
    split
    · rename_i h1 h2 h3 h4
      rw [if_neg h1, if_neg h2, if_neg h3, if_pos h4] at h
      split
      · rename_i hp
        rw [if_pos hp] at h
        simp only [Bool.and_eq_true, decide_eq_true_eq] at h
        exact ⟨hsum _ _ fun n => hg _, h.2.2⟩
      · exact ⟨show (0 : Int) ≤ 0 by decide, show (0 : Int) ≤ 32 by decide⟩
    split
    · rename_i h1 h2 h3 h4 h5
      rw [if_neg h1, if_neg h2, if_neg h3, if_neg h4, if_pos h5] at h
      split
      · rename_i hp
        rw [if_pos hp] at h
        simp only [Bool.and_eq_true, decide_eq_true_eq] at h hp
        exact ⟨Int.mul_nonneg (by omega) (hg _), h⟩
      · exact ⟨show (0 : Int) ≤ 0 by decide, show (0 : Int) ≤ 32 by decide⟩
    · exact ⟨show (0 : Int) ≤ 1 by decide, show (1 : Int) ≤ 32 by decide⟩
theorem types_Check_pure (hP : POk Tryz.prog F gl K) (t : Sl LType) (hp : ∀ x ∈ t.list, x.parts.list.length < 900000) (hlt : t.list.length < 1000000) : PureC Tryz.prog F N_types_Check [t.av LType.cells] (.int .i64 (typesE t.list)) := by
  refine CallsT.pure (O := fun v _ => v = .int .i64 (typesE t.list)) (k := 1) (by simp) ?_ (fun v h e => by subst e; rfl)
  refine CallsT.body hP nix_sound E_types_Check rfl rfl ?_
  refine TW.seq (TW.reg hP (by simp <;> rfl) ?_)
  dsimp only [goK, thenQ, blockQ, roundL]
  by_cases h16 : (16 : Int) < t.list.length
  · repeat' first | refine TW.seq ?_ | refine TW.condT hP rfl ?_ | (refine TW.reg hP (by simp [h16] <;> rfl) ?_; dsimp only [goK]) | simp only [thenQ]
    refine TW.ret ⟨.inr rfl, _, _, rfl, rfl, ?_⟩
    simp [tupOf, typesE, show 16 < t.list.length by omega]
  · have h16' : ¬ 16 < t.list.length := by omega
    repeat' first | refine TW.seq ?_ | refine TW.block ?_ | refine TW.skip ?_ | refine TW.condF hP rfl ?_ | (refine TW.reg hP (by simp [h16] <;> rfl) ?_; dsimp only [goK])
    refine TW.loopL (fun p : Nat × AV × List Int => [(0, t.av LType.cells), (3, p.2.1), (11, .int .i64 t.list.length), (12, .int .i64 (p.1 : Nat))])
      (fun p g => p.1 ≤ t.list.length ∧ p.2.2.length = p.1 ∧ (∀ n ∈ p.2.2, 0 ≤ n ∧ n ≤ 1000) ∧ typesGo t.list t.list.length [] = typesGo t.list (t.list.length - p.1) p.2.2 ∧ Own 1 T_int 0 g p.2.1 (p.2.2.map fun n => [.int .i64 n]))
      (fun p => t.list.length - p.1) (0, .nilsl, []) ?_ ⟨Nat.zero_le _, rfl, (fun n hn => by cases hn), rfl, .nil⟩ ?_
    · repeat' first | exact less_nil | refine less_cons (by simp) ?_
    rintro ⟨i, lv, sz⟩ g ⟨hi, hsz, hs, hgo, hown⟩
    dsimp only at hi hsz hs hgo hown ⊢
    refine TW.seq (TW.reg hP (by simp <;> rfl) ?_)
    dsimp only [goK, thenQ, blockQ, roundL]
    refine TW.seq (TW.cond hP rfl (fun hc => TW.skip ?_) (fun hc => TW.exit ?_))
    · have hi' : i < t.list.length := by simpa using hc
      have hstep : typesGo t.list (t.list.length - i) sz = if (mayS t.list i sz).2 = true then typesGo t.list (t.list.length - (i + 1)) (sz ++ [(mayS t.list i sz).1]) else none := by
        rw [show t.list.length - i = (t.list.length - (i + 1)) + 1 by omega]
        simp only [typesGo, hsz]
      dsimp only [thenQ]
      refine TW.seq (TW.block (TW.seq (TW.reg hP (by simp <;> rfl) ?_)))
      dsimp only [goK, thenQ]
      refine TW.seq (TW.reg hP (by simp <;> rfl) ?_)
      dsimp only [goK, thenQ, blockQ, roundL]
      refine TO.qcall hP I_types_may (may_qt hP g t i lv sz hown.rdI hi' hsz hs hlt hp) (by simp) rfl rfl rfl rfl fun k hk => ?_
      have hb := mayS_bnd (t := t.list) (k := i) hs
      rw [hstep] at hgo
      cases hm : (mayS t.list i sz).2 with
      | false =>
        rw [hm] at hgo
        refine TO.runs hP (by simp <;> rfl) ?_
        dsimp only [goK, thenQ, blockQ, roundL]
        repeat' first | refine TW.seq ?_ | refine TW.condT hP rfl ?_ | (refine TW.reg hP (by simp <;> rfl) ?_; dsimp only [goK]) | simp only [thenQ]
        refine TW.ret ⟨.inr rfl, _, _, rfl, rfl, ?_⟩
        simp [tupOf, typesE, h16', hgo]
      | true =>
        rw [hm] at hgo
        have hb := hb hm
        refine TO.runs hP (by simp <;> rfl) ?_
        dsimp only [goK, thenQ, blockQ, roundL]
        have hown2 := hown.wid hk
        obtain ⟨lv', k', happ, hown', hwb', hnx⟩ := hown2.push (row := [.int .i64 (mayS t.list i sz).1]) (slt_ints (gl := gl) (K := K)) (fun c hc => by obtain ⟨_, _, rfl⟩ := List.mem_map.1 hc; rfl) rfl rfl (by simp; omega) (Nat.zero_le _)
        dsimp only [T_ints, T_int] at happ hown'
        have hinc := inc_ (C := Ctx.of Tryz.prog gl K) (t := T_int) (i := i) (by omega)
        dsimp only [T_int] at hinc
        repeat' first | refine TW.seq ?_ | refine TW.skip ?_ | refine TW.condF hP rfl ?_ | (refine TW.reg hP (by simp [happ, hinc] <;> rfl) ?_; dsimp only [goK])
        dsimp only [roundL]
        refine ⟨(i + 1, lv', sz ++ [(mayS t.list i sz).1]), by dsimp only; omega, rfl, ?_, by dsimp only; omega, by simp [hsz], fun n hn => ?_, by simpa using hgo, ?_⟩
        · repeat' first | exact less_nil | refine less_cons (by simp) ?_
        · rcases List.mem_append.1 hn with hn | hn
          · exact hs n hn
          · rw [List.mem_singleton.1 hn]; omega
        · simpa using hown'
    · have hi' : i = t.list.length := by simp at hc; omega
      subst hi'
      rw [Nat.sub_self] at hgo
      repeat' first | refine TW.seq ?_ | (refine TW.reg hP (by simp <;> rfl) ?_; dsimp only [goK]) | simp only [thenQ]
      refine TW.ret ⟨.inr rfl, _, _, rfl, rfl, ?_⟩
      simp [tupOf, typesE, h16', hgo, typesGo]
def belowS (n most : Int) : Bool := decide (0 ≤ n) && decide (n < most)
theorem below_pure (hP : POk Tryz.prog F gl K) (n most : Int) : PureC Tryz.prog F N_shape_below [.int .i64 n, .int .i64 most] (.bool (belowS n most)) := by
 refine CallsT.pure (O := fun v _ => v = .bool (belowS n most)) (k := 1) (by simp) ?_ (fun v h e => by subst e; rfl)
 refine CallsT.body hP nix_sound E_shape_below rfl rfl ?_
 refine TW.seq (TW.reg hP (by simp <;> rfl) ?_)
 dsimp only [goK, thenQ, blockQ, roundL]
 refine TW.seq (TW.reg hP (by simp +contextual -implicitDefEqProofs <;> rfl) ?_)
 dsimp only [goK, thenQ, blockQ, roundL]
 refine TW.ret ⟨.inr rfl, _, _, rfl, rfl, ?_⟩
 simp [tupOf, belowS]
theorem all1 (hP : POk Tryz.prog F gl K) (most n : Int) (r : Nat) (e : TypeId) (h : Hp) (hr : h.get r = some (.cells e [.int .i64 most])) :
  Qt Tryz.prog F h (.bool (!belowS n most)) N_shape_all_1 [.int .i64 n, .ptr r 0] := by
 refine CallsT.body hP nix_sound E_shape_all_1 rfl rfl ?_
 refine TW.seq (TW.reg hP (by simp <;> rfl) ?_)
 dsimp only [goK, thenQ, blockQ, roundL]
 refine TW.seq (TW.reg hP (by simp [hr] <;> rfl) ?_)
 dsimp only [goK, thenQ, blockQ, roundL]
 refine TO.scall hP I_shape_below (below_pure hP n most) (by simp) rfl rfl rfl rfl ?_
 refine TO.runs hP (by simp <;> rfl) ?_
 dsimp only [goK, thenQ, blockQ, roundL]
 refine TW.ret ⟨.inr rfl, h, _, rfl, rfl, ?_, .refl _⟩
 simp [tupOf]
theorem all_pure (hP : POk Tryz.prog F gl K) (most : Int) (xs : Sl Int) (hlen : xs.list.length < 1000000) : PureC Tryz.prog F N_shape_all [xs.av cI, .int .i64 most] (.bool (thereS most xs.list)) := by
 refine CallsT.pure (O := fun v _ => v = .bool (thereS most xs.list)) (k := 1) (by simp) ?_ (fun v h e => by subst e; rfl)
 refine CallsT.body hP nix_sound E_shape_all rfl rfl ?_
 refine TW.seq (TW.reg hP (by simp <;> rfl) ?_)
 dsimp only [goK, thenQ, blockQ, roundL]
 refine TW.seq (TW.reg hP (by simp <;> rfl) ?_)
 dsimp only [goK, thenQ, blockQ, roundL]
 refine TO.qcall hP I_slices_ContainsFunc_int_int (ContainsFunc_ints hP xs N_shape_all_1 [.ptr 0 0] (fun n => !belowS n most) I_shape_all_1 _ hlen fun x _ h' hw => all1 hP most x 0 T_int h' ((hw.at (o := .cells T_int [.int .i64 most]) (by simp) (by simp)))) (by simp) rfl rfl rfl rfl fun k hk => ?_
 refine TO.runs hP (by simp <;> rfl) ?_
 dsimp only [goK, thenQ, blockQ, roundL]
 refine TW.ret ⟨.inr rfl, k, _, rfl, rfl, ?_⟩
 simp only [tupOf, thereS]
 congr 1
 rw [List.not_any_eq_all_not]
 simp [belowS]
structure LSizes where
 types : Int
 funcs : Int
 regs : Int
 blocks : Int
def LSizes.cells (x : LSizes) : List AV := [.int .i64 x.types, .int .i64 x.funcs, .int .i64 x.regs, .int .i64 x.blocks]
attribute [simp] LSizes.cells
def numberS (x : LIns) (s : LSizes) : Bool :=
 if x.op = 3 ∨ x.op = 18 then decide (0 ≤ x.n) && decide (x.n < s.funcs) else if x.op = 14 then decide (0 ≤ x.n) && decide (x.n < 8) else true
theorem number_pure (hP : POk Tryz.prog F gl K) (x : LIns) (s : LSizes) : PureC Tryz.prog F N_shape_number [.agg x.cells, .agg s.cells] (.bool (numberS x s)) := by
 refine CallsT.pure (O := fun v _ => v = .bool (numberS x s)) (k := 1) (by simp) ?_ (fun v h e => by subst e; rfl)
 refine CallsT.body hP nix_sound E_shape_number rfl rfl ?_
 refine TW.seq (TW.reg hP (by simp <;> rfl) ?_)
 dsimp only [goK, thenQ, blockQ, roundL]
 by_cases h3 : x.op = 3
 ·repeat' first | refine TW.seq ?_ | refine TW.block ?_ | refine TW.skip ?_ | refine TW.condT hP rfl ?_ | (refine TW.reg hP (by simp +contextual -implicitDefEqProofs [h3] <;> rfl) ?_; dsimp only [goK]) | simp only [thenQ]
  refine TW.ret ⟨.inr rfl, _, _, rfl, rfl, ?_⟩
  simp [tupOf, numberS, h3]
 ·by_cases h18 : x.op = 18
  ·repeat' first | refine TW.seq ?_ | refine TW.block ?_ | refine TW.condT hP rfl ?_ | refine TW.condF hP rfl ?_ | (refine TW.reg hP (by simp +contextual -implicitDefEqProofs [h18] <;> rfl) ?_; dsimp only [goK]) | simp only [thenQ]
   refine TW.ret ⟨.inr rfl, _, _, rfl, rfl, ?_⟩
   simp [tupOf, numberS, h18]
  ·by_cases h14 : x.op = 14
   ·repeat' first | refine TW.seq ?_ | refine TW.block ?_ | refine TW.condT hP rfl ?_ | refine TW.condF hP rfl ?_ | (refine TW.reg hP (by simp +contextual -implicitDefEqProofs [h14] <;> rfl) ?_; dsimp only [goK]) | simp only [thenQ]
    refine TW.ret ⟨.inr rfl, _, _, rfl, rfl, ?_⟩
    simp [tupOf, numberS, h14]
   ·repeat' first | refine TW.seq ?_ | refine TW.block ?_ | refine TW.skip ?_ | refine TW.condF hP rfl ?_ | (refine TW.reg hP (by simp +contextual -implicitDefEqProofs [h3, h18, h14] <;> rfl) ?_; dsimp only [goK]) | simp only [thenQ]
    refine TW.ret ⟨.inr rfl, _, _, rfl, rfl, ?_⟩
    simp [tupOf, numberS, h3, h18, h14]
end Go.Ax
set_option maxRecDepth 20000
noncomputable section
namespace Go.Ax
open Go.Proofs
def w64 (n : Int) : Int := wrapF .i64 n
variable {C : Ctx} {t : TypeId} {a b : Int}
theorem bAddW : binOpA C .add t (.int .i64 a) (.int .i64 b) = some (.int .i64 (w64 (a + b))) := by
 show some (AV.int .i64 (wrapF .i64 (addI a b))) = _; rw [addI_eq]; rfl
theorem bSubW : binOpA C .sub t (.int .i64 a) (.int .i64 b) = some (.int .i64 (w64 (a - b))) := by
 show some (AV.int .i64 (wrapF .i64 (subI a b))) = _; rw [subI_eq]; rfl
theorem w64e {n : Int} (h1 : -9223372036854775808 ≤ n) (h2 : n ≤ 9223372036854775807) : w64 n = n := wrap_i64 h1 h2
theorem w64s {k : Nat} (h : k < 9000000000000000000) : w64 ((k : Int) + 1) = ((k + 1 : Nat) : Int) := by rw [w64e (by omega) (by omega)]; rfl
attribute [simp] bAddW bSubW
theorem any_take_succ {α : Type} {l : List α} {p : α → Bool} {i : Nat} {x : α} (hx : l[i]? = some x) : (l.take (i + 1)).any p = ((l.take i).any p || p x) := by
 obtain ⟨h, rfl⟩ := List.getElem?_eq_some_iff.1 hx
 rw [List.take_succ_eq_append_getElem h, List.any_append]; simp
theorem get_of_lt {α : Type} {l : List α} {i : Nat} (h : i < l.length) : ∃ x, l[i]? = some x := ⟨_, List.getElem?_eq_getElem h⟩
theorem any_true_of {α : Type} {l : List α} {p : α → Bool} {i : Nat} {x : α} (hx : l[i]? = some x) (hp : p x = true) : l.any p = true := List.any_eq_true.2 ⟨x, List.mem_of_getElem? hx, hp⟩
theorem own_frz_ints {h : Hp} {b k : Nat} {v : AV} {l : List Int} (ho : Own 1 T_int b h v (l.map cI)) (hl : l ≠ []) : frzV (k + 2) h v = some (.isl (l.map cI)) := by
  have := ho.frz (k := k + 1) (rows' := l.map cI) (fun c hc => by obtain ⟨n, _, rfl⟩ := List.mem_map.1 hc; rfl) (by
    induction l with
    | nil => rfl
    | cons a l ih =>
      simp only [List.map_cons, mapO, cI]
      have : ∀ l : List Int, mapO (mapO (frzV (k + 1) h)) (l.map cI) = some (l.map cI) := fun l => by
        induction l with
        | nil => rfl
        | cons a l ih => simp only [List.map_cons, mapO, cI, ih]; rfl
      rw [this]; rfl)
  rw [this]
  cases l with
  | nil => exact absurd rfl hl
  | cons a l => rfl
theorem isrc_ints {gl : Nat → AV} {K : Knob} : isSrcT ((Ctx.of Tryz.prog gl K).ti T_ints) = true := by simp [isSrcT, isSrc]
theorem src_isl {h : Hp} {es : Nat} {xs : List (List AV)} (hx : ∀ c ∈ xs, c.length = es) : srcCells h es xs.length (.isl xs) = some xs.flatten := by
 unfold srcCells
 have : (xs.all fun c => Nat.beq c.length es) = true := List.all_eq_true.2 fun c hc => by rw [hx c hc]; exact Nat.beq_refl _
 dsimp only
 rw [this]
 simp [ble_dec]
theorem ints_len {l : List Int} : ∀ c ∈ l.map cI, c.length = 1 := fun c hc => by obtain ⟨n, _, rfl⟩ := List.mem_map.1 hc; rfl
theorem ints_cell {l : List Int} : (l.map cI).flatten.all isCell = true := by
 induction l with
 | nil => rfl
 | cons a l ih => simp
def joinQ {ι : Type} (K : ι → Kn) (H : ι → Hp → Prop) (ds : List ADef) (Q : PQ) : PQ
 | .normal, l, h, ds' => ∃ y, ds' = ds ∧ Less l (K y) ∧ H y h
 | e, l, h, ds' => Q e l h ds'
theorem TW.join {P : Program} {F : Nat → Option Obj} {c d : Code} {n : Nat} {rd : Option Nat} {l : Kn} {h : Hp} {ds : List ADef} {Q : PQ} {ι : Type} (K : ι → Kn) (H : ι → Hp → Prop)
    (h1 : TW P F c n rd l h ds (joinQ K H ds Q)) (h2 : ∀ y g, H y g → TW P F d n rd (K y) g ds Q) : TW P F (.seq c d) n rd l h ds Q :=
  TW.seq (h1.mono fun e l' h' ds' hq => by
    cases e with
    | normal =>
      obtain ⟨y, rfl, h3, h4⟩ := hq
      exact (h2 y h' h4).less h3
    | exit i => exact hq
    | goto i => exact hq
    | ret => exact hq
    | panic v => exact hq)
end Go.Ax
