/- THE ABSTRACT MACHINE AND WHY IT IS RIGHT, part d. Nothing is assumed. -/
import Derived.Test.YtdlbpincdnipdaaGreatDoorMc
import Derived.Deep.Slices
/- More fuel, the same answer. -/
namespace Go.Ax

/-- One evaluator tells all that another one does. -/
def ILe (f g : Code → St → Res) : Prop := ∀ c s r, f c s = some r → g c s = some r
section
variable {P : Program} {C : Ctx} {f g : Code → St → Res}
theorem callF_mono (h : ILe f g) {i : FuncId} {args : List AV} {hp : Hp} {r : OpR} (hc : callF C f i args hp = some r) : callF C g i args hp = some r := by
  unfold callF at hc ⊢
  split at hc
  case h_2 => cases hc
  rename_i fn hf
  split at hc
  case h_2 => cases hc
  rename_i c hb
  split at hc
  · exact hc
  · cases hle : Nat.ble args.length fn.ntmps with
    | false => rw [hle] at hc; cases hc
    | true =>
      rw [hle] at hc
      simp only [cond_true] at hc ⊢
      split at hc
      · rename_i s hr; rw [h _ _ _ hr]; exact hc
      · rename_i s hr; rw [h _ _ _ hr]; exact hc
      · cases hc
theorem yieldF_mono (h : ILe f g) {l : Nat} {args : List AV} {hp : Hp} {r : OpR} (hc : yieldF f l args hp = some r) : yieldF g l args hp = some r := by
  unfold yieldF at hc ⊢
  split at hc
  case h_2 => cases hc
  split at hc
  · cases hc
  rename_i pd tm n ps asn body ds0 hg _ tm' hp2
  cases hb : (ps.all fun p => Nat.blt p n) with
  | false => rw [hb] at hc; cases hc
  | true =>
    rw [hb] at hc
    simp only [cond_true] at hc ⊢
    split at hc
    case h_2 => cases hc
    rename_i s1 hr
    rw [h _ _ _ hr]
    dsimp only
    split at hc
    case h_2 => cases hc
    split at hc
    case h_2 => cases hc
    rename_i hr2
    rw [h _ _ _ hr2]
    exact hc
theorem applyF_mono (h : ILe f g) {x : AV} {args : List AV} {hp : Hp} {r : OpR} (hc : applyF C f x args hp = some r) : applyF C g x args hp = some r := by
  unfold applyF at hc ⊢
  split at hc
  · exact callF_mono h hc
  · exact yieldF_mono h hc
  · cases hc
theorem opA_mono (h : ILe f g) {s : St} {o : Oper} {r : OpR} (hc : opA P C f s o = some r) : opA P C g s o = some r := by
  unfold opA at hc ⊢
  cases ho : o.op
  case call c =>
    rw [ho] at hc
    dsimp only at hc ⊢
    cases hce : c.callee with
    | value x => rw [hce] at hc; exact applyF_mono h hc
    | invoke x name =>
      rw [hce] at hc
      dsimp only at hc ⊢
      split at hc
      · rename_i t x hx
        split at hc
        · exact callF_mono h hc
        · cases hc
      · cases hc
    | builtin b => rw [hce] at hc; exact hc
  all_goals (rw [ho] at hc; exact hc)
theorem runOps_mono (h : ILe f g) {ops : List Oper} : ∀ (l : List Oper) (s : St) (r : Ex × St), runOps P C f ops l s = some r → runOps P C g ops l s = some r
  | [], s, r, hc => hc
  | o :: l, s, r, hc => by
    unfold runOps at hc ⊢
    split at hc
    · cases hc
    · rename_i hw
      split at hc
      · rename_i hp; exact runOps_mono h l _ _ hc
      · cases hc
    · rename_i hw
      split at hc
      · rename_i ho
        rw [opA_mono h ho]
        dsimp only
        split at hc
        · exact runOps_mono h l _ _ hc
        · cases hc
      · rename_i ho
        rw [opA_mono h ho]
        dsimp only
        split at hc
        · rename_i hrd
          split at hc
          · exact runOps_mono h l _ _ hc
          · cases hc
        · cases hc
      · rename_i ho
        rw [opA_mono h ho]; exact hc
      · cases hc
theorem runDraw_mono (h : ILe f g) {ops : List Oper} {ms : List Nat} : ∀ (l : List Oper) (i : Nat) (fps : List FP) (s : St) (r : Ex × St), runDraw P C f ops ms l i fps s = some r → runDraw P C g ops ms l i fps s = some r
  | [], i, fps, s, r, hc => hc
  | o :: l, i, fps, s, r, hc => by
    unfold runDraw at hc ⊢
    split at hc
    · cases hc
    · rename_i hw
      split at hc
      · exact runDraw_mono h l _ _ _ _ hc
      · cases hc
    · rename_i hw
      split at hc
      · rename_i ho
        rw [opA_mono h ho]
        dsimp only
        split at hc
        · split at hc
          · exact runDraw_mono h l _ _ _ _ hc
          · cases hc
        · cases hc
      · cases hc
theorem scopeRun_mono (h : ILe f g) {body : Code} : ∀ (k j : Nat) (c : Code) (s : St) (r : Ex × St), k ≤ j → scopeRun f body k c s = some r → scopeRun g body j c s = some r
  | 0, _, _, _, _, _, hc => by cases hc
  | k + 1, 0, _, _, _, hk, _ => by omega
  | k + 1, j + 1, c, s, r, hk, hc => by
    unfold scopeRun at hc ⊢
    split at hc
    · rename_i l s' hr
      rw [h _ _ _ hr]
      dsimp only
      split at hc
      · rename_i hl; exact scopeRun_mono h k j _ _ _ (by omega) hc
      · exact hc
    · rename_i hn
      cases hr : f c s with
      | none => rw [hr] at hc; cases hc
      | some q => rw [h _ _ _ hr]; rw [hr] at hc; cases hc; split <;> first | (rename_i he; cases he; exact absurd hr (hn _ _)) | rfl
theorem rangeF_mono (h : ILe f g) {x : Operand} {ps : List Nat} {asn body : Code} {s : St} {r : Ex × St} (hc : rangeF C f x ps asn body s = some r) : rangeF C g x ps asn body s = some r := by
  unfold rangeF at hc ⊢
  split at hc
  · cases hc
  · rename_i hrd
    dsimp only at hc ⊢
    have key : ∀ {a : AV} {b : List AV} {d : Hp} {q : OpR}, callV C f a b d = some q → callV C g a b d = some q := by
      intro a b d q hq
      unfold callV at hq ⊢
      split at hq
      · exact callF_mono h hq
      · cases hq
    split at hc
    · rename_i v h3 hq
      rw [key hq]; exact hc
    · cases hc
theorem step_mono (h : ILe f g) {k j : Nat} (hk : k ≤ j) {c : Code} {s : St} {r : Ex × St} (hc : step P C f k c s = some r) : step P C g j c s = some r := by
  unfold step at hc ⊢
  cases c with
  | skip => exact hc
  | label l => exact hc
  | region id ops draw =>
    cases draw with
    | true =>
      simp only [cond_true] at hc ⊢
      unfold drawF at hc ⊢
      cases hb : drawOk ops.toList ops.toList (masks [] ops.toList) 0 [] with
      | true => rw [hb] at hc; exact runDraw_mono h _ _ _ _ _ hc
      | false => rw [hb] at hc; cases hc
    | false => exact runOps_mono h _ _ _ hc
  | seq a b =>
    dsimp only at hc ⊢
    split at hc
    · rename_i s' hr; rw [h _ _ _ hr]; exact h _ _ _ hc
    · rename_i hn
      cases hr : f a s with
      | none => rw [hr] at hc; cases hc
      | some q => rw [h _ _ _ hr]; rw [hr] at hc; cases hc; split <;> first | (rename_i he; cases he; exact absurd hr (hn _)) | rfl
  | cond x a b =>
    dsimp only at hc ⊢
    split at hc
    · exact h _ _ _ hc
    · exact h _ _ _ hc
    · cases hc
  | block id a =>
    dsimp only at hc ⊢
    cases hr : f a s with
    | none => rw [hr] at hc; cases hc
    | some q => rw [h _ _ _ hr]; rw [hr] at hc; exact hc
  | loop a =>
    dsimp only at hc ⊢
    split at hc
    · rename_i s' hr; rw [h _ _ _ hr]; exact h _ _ _ hc
    · rename_i hn
      cases hr : f a s with
      | none => rw [hr] at hc; cases hc
      | some q => rw [h _ _ _ hr]; rw [hr] at hc; cases hc; split <;> first | (rename_i he; cases he; exact absurd hr (hn _)) | rfl
  | rangeFunc x ps asn body => exact rangeF_mono h hc
  | exit id => exact hc
  | goto l => exact hc
  | scope body => exact scopeRun_mono h _ _ _ _ _ hk hc
  | ret => exact hc
  | refuse m => cases hc
end
theorem exec_succ (P : Program) (C : Ctx) (n : Nat) (c : Code) (s : St) : exec P C (n + 1) c s = step P C (exec P C n) n c s := rfl
theorem exec_zero (P : Program) (C : Ctx) (c : Code) (s : St) : exec P C 0 c s = none := rfl
theorem exec_mono {P : Program} {C : Ctx} : ∀ {n k : Nat}, n ≤ k → ILe (exec P C n) (exec P C k)
  | 0, _, _, c, s, r, h => by rw [exec_zero] at h; cases h
  | n + 1, 0, hk, _, _, _, _ => by omega
  | n + 1, k + 1, hk, c, s, r, h => by
    rw [exec_succ] at h ⊢
    exact step_mono (exec_mono (by omega)) (by omega) h
theorem call_mono {P : Program} {C : Ctx} {n k : Nat} (hk : n ≤ k) {f : FuncId} {args : List AV} {h : Hp} {r : OpR} (hc : call P C n f args h = some r) : call P C k f args h = some r := callF_mono (exec_mono hk) hc
end Go.Ax

/- Runs of the abstract machine, told without fuel: rules for code, for calls, for loops. -/
namespace Go.Ax
section
variable {P : Program} {C : Ctx}

/-- With fuel enough, code goes from a state to that. -/
def Runs (P : Program) (C : Ctx) (c : Code) (s : St) (e : Ex) (s' : St) : Prop := ∃ n, exec P C n c s = some (e, s')
theorem Runs.at {c : Code} {s s' : St} {e : Ex} (h : Runs P C c s e s') : ∃ n, ∀ k, n ≤ k → exec P C k c s = some (e, s') := by
  obtain ⟨n, hn⟩ := h
  exact ⟨n, fun k hk => exec_mono hk _ _ _ hn⟩
theorem Runs.seq {a b : Code} {s s1 s2 : St} {e : Ex} (h : Runs P C a s .normal s1) (k : Runs P C b s1 e s2) : Runs P C (.seq a b) s e s2 := by
  obtain ⟨n, hn⟩ := h
  obtain ⟨m, hm⟩ := k
  refine ⟨max n m + 1, ?_⟩
  rw [exec_succ]
  show (match exec P C (max n m) a s with | some (.normal, s') => exec P C (max n m) b s' | r => r) = _
  rw [exec_mono (Nat.le_max_left n m) _ _ _ hn]
  exact exec_mono (Nat.le_max_right n m) _ _ _ hm
theorem Runs.seq_out {a b : Code} {s s1 : St} {e : Ex} (h : Runs P C a s e s1) (he : e ≠ .normal) : Runs P C (.seq a b) s e s1 := by
  obtain ⟨n, hn⟩ := h
  refine ⟨n + 1, ?_⟩
  rw [exec_succ]
  show (match exec P C n a s with | some (.normal, s') => exec P C n b s' | r => r) = _
  rw [hn]
  cases e <;> first | exact absurd rfl he | rfl
theorem Runs.cond {x : Operand} {a b : Code} {s s1 : St} {e : Ex} {t : Bool} (hx : s.ev C x = .bool t) (h : Runs P C (bif t then a else b) s e s1) : Runs P C (.cond x a b) s e s1 := by
  obtain ⟨n, hn⟩ := h
  refine ⟨n + 1, ?_⟩
  rw [exec_succ]
  show (match s.ev C x with | .bool true => exec P C n a s | .bool false => exec P C n b s | _ => none) = _
  rw [hx]
  cases t <;> exact hn
theorem Runs.skip {s : St} : Runs P C .skip s .normal s := ⟨1, rfl⟩
theorem Runs.ret {s : St} : Runs P C .ret s .ret s := ⟨1, rfl⟩
theorem Runs.exit {s : St} {i : Nat} : Runs P C (.exit i) s (.exit i) s := ⟨1, rfl⟩
/-- How a block is left. -/
def outOf (i : Nat) : Ex → Ex
  | .exit j => bif Nat.beq j i then .normal else .exit j
  | e => e
theorem Runs.block {i : Nat} {a : Code} {s s1 : St} {e : Ex} (h : Runs P C a s e s1) : Runs P C (.block i a) s (outOf i e) s1 := by
  obtain ⟨n, hn⟩ := h
  refine ⟨n + 1, ?_⟩
  rw [exec_succ]
  show (match exec P C n a s with | some (.exit j, s') => bif Nat.beq j i then some ((Ex.normal, s') : Ex × St) else some (Ex.exit j, s') | r => r) = _
  rw [hn]
  cases e <;> first | rfl | (unfold outOf; dsimp only; cases Nat.beq _ i <;> rfl)
theorem Runs.loop_more {a : Code} {s s1 s2 : St} {e : Ex} (h : Runs P C a s .normal s1) (k : Runs P C (.loop a) s1 e s2) : Runs P C (.loop a) s e s2 := by
  obtain ⟨n, hn⟩ := h
  obtain ⟨m, hm⟩ := k
  refine ⟨max n m + 1, ?_⟩
  rw [exec_succ]
  show (match exec P C (max n m) a s with | some (.normal, s') => exec P C (max n m) (.loop a) s' | r => r) = _
  rw [exec_mono (Nat.le_max_left n m) _ _ _ hn]
  exact exec_mono (Nat.le_max_right n m) _ _ _ hm
theorem Runs.loop_out {a : Code} {s s1 : St} {e : Ex} (h : Runs P C a s e s1) (he : e ≠ .normal) : Runs P C (.loop a) s e s1 := by
  obtain ⟨n, hn⟩ := h
  refine ⟨n + 1, ?_⟩
  rw [exec_succ]
  show (match exec P C n a s with | some (.normal, s') => exec P C n (.loop a) s' | r => r) = _
  rw [hn]
  cases e <;> first | exact absurd rfl he | rfl
/-- An evaluator that tells nothing. -/
def nix : Code → St → Res := fun _ _ => none
theorem nix_le (g : Code → St → Res) : ILe nix g := fun _ _ _ h => by cases h
/-- A region without calls. -/
theorem Runs.region {i : Nat} {ops : Array Oper} {s s1 : St} (h : runOps P C nix ops.toList ops.toList s = some (.normal, s1)) : Runs P C (.region i ops false) s .normal s1 :=
  ⟨1, runOps_mono (nix_le _) _ _ _ h⟩
theorem Runs.draw {i : Nat} {ops : Array Oper} {s s1 : St} (h : drawF P C nix ops.toList (masks [] ops.toList) s = some (.normal, s1)) : Runs P C (.region i ops true) s .normal s1 := by
  refine ⟨1, ?_⟩
  show drawF P C (exec P C 0) ops.toList (masks [] ops.toList) s = some (.normal, s1)
  unfold drawF at h ⊢
  cases hb : drawOk ops.toList ops.toList (masks [] ops.toList) 0 [] with
  | true => rw [hb] at h; exact runDraw_mono (nix_le _) _ _ _ _ _ h
  | false => rw [hb] at h; cases h
/-- A region with calls: from some fuel on. -/
theorem Runs.regionC {i : Nat} {ops : Array Oper} {s s1 : St} {n : Nat} (h : runOps P C (exec P C n) ops.toList ops.toList s = some (.normal, s1)) : Runs P C (.region i ops false) s .normal s1 := ⟨n + 1, h⟩
theorem Runs.drawC {i : Nat} {ops : Array Oper} {s s1 : St} {n : Nat} (h : drawF P C (exec P C n) ops.toList (masks [] ops.toList) s = some (.normal, s1)) : Runs P C (.region i ops true) s .normal s1 := ⟨n + 1, h⟩

/-! ### Memory that only grows -/
structure Grow (h h' : Hp) : Prop where
  nx : h.nx ≤ h'.nx
  get : ∀ r, r < h.nx → h'.get r = h.get r
  lo : min h.lo h.nx ≤ h'.lo
  up : h'.lo ≤ h.lo
theorem Grow.refl (h : Hp) : Grow h h := ⟨Nat.le_refl _, fun _ _ => rfl, Nat.min_le_left _ _, Nat.le_refl _⟩
theorem Grow.trans {a b c : Hp} (h : Grow a b) (k : Grow b c) : Grow a c :=
  ⟨Nat.le_trans h.nx k.nx, fun r hr => (k.get r (Nat.lt_of_lt_of_le hr h.nx)).trans (h.get r hr), by have := h.lo; have := k.lo; have := h.nx; omega, Nat.le_trans k.up h.up⟩
theorem Grow.new (h : Hp) (o : AObj) : Grow h (h.new o) := ⟨Nat.le_succ _, fun r hr => by rw [Hp.get_new, if_neg (by omega)], Nat.min_le_left _ _, Nat.le_refl _⟩
/-- A new block turned. -/
theorem Grow.put {h g : Hp} (k : Grow h g) {r : Nat} (hr : h.nx ≤ r) (o : AObj) : Grow h (g.put r o) := by
  refine ⟨k.nx, fun s hs => by rw [Hp.get_put, if_neg (by omega)]; exact k.get s hs, ?_, ?_⟩
  · show min h.lo h.nx ≤ (bif Nat.ble g.lo r then g.lo else r)
    cases Nat.ble g.lo r with
    | true => exact k.lo
    | false => simp only [cond_false]; omega
  · show (bif Nat.ble g.lo r then g.lo else r) ≤ h.lo
    have := k.up
    cases hb : Nat.ble g.lo r with
    | true => exact this
    | false =>
      simp only [cond_false]
      rcases Nat.lt_or_ge r g.lo with h1 | h1
      · omega
      · rw [Nat.ble_eq_true_of_le h1] at hb; cases hb
theorem Grow.low {h g : Hp} (k : Grow h g) (hl : h.lo ≤ h.nx) : g.lo ≤ g.nx := Nat.le_trans k.up (Nat.le_trans hl k.nx)

/-- A call answers a value, in whatever memory, and turns nothing of it. -/
def CallsTo (P : Program) (C : Ctx) (f : FuncId) (args : List AV) (v : AV) : Prop := ∃ n, ∀ k, n ≤ k → ∀ h, ∃ h', call P C k f args h = some (.val v h') ∧ Grow h h'
theorem CallsTo.mk {f : FuncId} {fn : Func} {c : Code} {args : List AV} {v : AV} (hf : C.fn.get f = some fn) (hb : fn.body = some c) (ho : C.orc f args = none) (hn : Nat.ble args.length fn.ntmps = true)
    (n : Nat) (h : ∀ h, ∃ e s vs, exec P C n c { n := fn.ntmps, tm := setArgs .e 0 args, h := h, ds := [], rd := none } = some (e, s) ∧ (e = .normal ∨ e = .ret) ∧ s.ds = [] ∧ resultsA C s fn.results.toList = some vs ∧ tupOf vs = v ∧ Grow h s.h) : CallsTo P C f args v := by
  refine ⟨n, fun k hk hp => ?_⟩
  obtain ⟨e, ⟨n0, tm0, hp0, ds0, rd0⟩, vs, h1, h2, h3, h4, rfl, h5⟩ := h hp
  dsimp only at h3
  subst h3
  refine ⟨hp0, ?_, h5⟩
  unfold call callF
  rw [hf]
  dsimp only
  rw [hb]
  dsimp only
  rw [ho]
  dsimp only
  rw [hn]
  simp only [cond_true]
  rw [exec_mono hk _ _ _ h1]
  rcases h2 with rfl | rfl <;> (dsimp only; unfold dropMarks; dsimp only; rw [h4])
/-- A call in its own memory. -/
theorem CallsTo.own {f : FuncId} {args : List AV} {v : AV} (h : CallsTo P C f args v) : ∃ n h', call P C n f args h0 = some (.val v h') := by
  obtain ⟨n, hn⟩ := h
  obtain ⟨h', h1, _⟩ := hn n (Nat.le_refl _) h0
  exact ⟨n, h', h1⟩
end
end Go.Ax

/- Facts for walks over symbolic values: operations one by one. -/
namespace Go.Ax
section
variable {P : Program} {C : Ctx}
/-! ### Types, as closed facts -/
def isSc (C : Ctx) (t : TypeId) : Bool := match C.ti t with | some x => !x.isAgg && Nat.beq x.size 1 | none => false
def isAg (C : Ctx) (t : TypeId) (n : Nat) : Bool := match C.ti t with | some x => x.isAgg && Nat.beq x.size n | none => false
def isSl (C : Ctx) (t : TypeId) (es : Nat) : Bool := match C.ti t with | some x => (match x.desc with | .slice e => (match C.ti e with | some y => Nat.beq y.size es | none => false) | _ => false) | none => false
theorem isSc_iff {t : TypeId} (h : isSc C t = true) : ∃ x, C.ti t = some x ∧ x.isAgg = false ∧ x.size = 1 := by
  unfold isSc at h
  cases hx : C.ti t with
  | none => rw [hx] at h; cases h
  | some x =>
    rw [hx] at h
    obtain ⟨a, b⟩ := and_bool h
    exact ⟨x, rfl, by simpa using a, Nat.eq_of_beq_eq_true b⟩
theorem isAg_iff {t : TypeId} {n : Nat} (h : isAg C t n = true) : ∃ x, C.ti t = some x ∧ x.isAgg = true ∧ x.size = n := by
  unfold isAg at h
  cases hx : C.ti t with
  | none => rw [hx] at h; cases h
  | some x =>
    rw [hx] at h
    obtain ⟨a, b⟩ := and_bool h
    exact ⟨x, rfl, a, Nat.eq_of_beq_eq_true b⟩
theorem isSl_iff {t : TypeId} {n : Nat} (h : isSl C t n = true) : ∃ x e y, C.ti t = some x ∧ x.desc = .slice e ∧ C.ti e = some y ∧ y.size = n := by
  unfold isSl at h
  cases hx : C.ti t with
  | none => rw [hx] at h; cases h
  | some x =>
    rw [hx] at h
    dsimp only at h
    split at h
    · rename_i e hd
      split at h
      · rename_i y hy
        exact ⟨x, e, y, rfl, hd, hy, Nat.eq_of_beq_eq_true h⟩
      · cases h
    · cases h

/-! ### Operations -/
theorem load_sc {t : TypeId} (ht : isSc C t = true) {r o : Nat} {h : Hp} {e : TypeId} {cs : List AV} (hg : h.get r = some (.cells e cs)) : loadAt C t (.ptr r o) h = cs[o]? := by
  obtain ⟨x, h1, h2, _⟩ := isSc_iff ht
  unfold loadAt
  rw [h1]
  dsimp only
  rw [hg]
  dsimp only
  unfold partOf
  rw [h2]
theorem load_sci {t : TypeId} (ht : isSc C t = true) {xs : List (List AV)} {i o : Nat} {h : Hp} : loadAt C t (.iptr xs i o) h = (xs[i]?).bind fun cs => cs[o]? := by
  obtain ⟨x, h1, h2, _⟩ := isSc_iff ht
  unfold loadAt
  rw [h1]
  dsimp only
  cases xs[i]? with
  | none => rfl
  | some cs => show partOf x cs o = _; unfold partOf; rw [h2]; rfl
theorem load_ag {t : TypeId} {n : Nat} (ht : isAg C t n = true) {r o : Nat} {h : Hp} {e : TypeId} {cs : List AV} (hg : h.get r = some (.cells e cs)) : loadAt C t (.ptr r o) h = (sub cs o n).map .agg := by
  obtain ⟨x, h1, h2, h3⟩ := isAg_iff ht
  unfold loadAt
  rw [h1]
  dsimp only
  rw [hg]
  dsimp only
  unfold partOf
  rw [h2, h3]
  dsimp only
  cases sub cs o n <;> rfl
theorem load_agi {t : TypeId} {n : Nat} (ht : isAg C t n = true) {xs : List (List AV)} {i o : Nat} {h : Hp} : loadAt C t (.iptr xs i o) h = (xs[i]?).bind fun cs => (sub cs o n).map .agg := by
  obtain ⟨x, h1, h2, h3⟩ := isAg_iff ht
  unfold loadAt
  rw [h1]
  dsimp only
  cases xs[i]? with
  | none => rfl
  | some cs =>
    show partOf x cs o = (sub cs o n).map .agg
    unfold partOf
    rw [h2, h3]
    dsimp only
    cases sub cs o n <;> rfl
theorem index_isl {t : TypeId} {n : Nat} (ht : isSl C t n = true) {xs : List (List AV)} {i : Nat} {k : IntKind} {c : List AV} (hc : xs[i]? = some c) (hn : c.length = n) : indexAt C t (.isl xs) (.int k (.ofNat i)) = some (.iptr xs i 0) := by
  obtain ⟨x, e, y, h1, h2, h3, h4⟩ := isSl_iff ht
  unfold indexAt
  rw [h1]
  simp only [natOf, h2, h3, hc]
  rw [h4, hn, Nat.beq_refl]
  rfl
theorem len_sl {t : TypeId} {n : Nat} (ht : isSl C t n = true) {v : AV} {h : Hp} {k : Nat} (hv : lenA v = some k) (hs : ∀ s, v ≠ .str s) : lenOfA C t v h = some (.int .i64 (.ofNat k)) := by
  obtain ⟨x, e, y, h1, h2, h3, h4⟩ := isSl_iff ht
  unfold lenOfA
  rw [h1]
  simp only [h2]
  cases v <;> first | exact absurd rfl (hs _) | (simp only [hv]) | (simp [lenA] at hv)

def szOf (C : Ctx) (t : TypeId) (n : Nat) : Bool := match C.ti t with | some x => Nat.beq x.size n | none => false
theorem store_at {t : TypeId} {v : AV} {vs cs : List AV} {n r o : Nat} {h : Hp} {e : TypeId} (ht : szOf C t n = true) (hv : cellsOf v = some vs) (hg : h.get r = some (.cells e cs)) (h1 : vs.length = n) (h2 : o + vs.length ≤ cs.length) (h3 : vs.all isCell = true) :
    storeAt C t (.ptr r o) v h = some (h.put r (.cells e (putCells cs o vs))) := by
  unfold szOf at ht
  split at ht
  case h_2 => cases ht
  rename_i x hx
  unfold storeAt
  rw [hx, hv]
  dsimp only
  rw [hg]
  dsimp only
  have e1 : Nat.beq vs.length x.size = true := by rw [h1, Nat.eq_of_beq_eq_true ht, Nat.beq_refl]
  have e2 : Nat.ble (Nat.add o vs.length) cs.length = true := Nat.ble_eq_true_of_le h2
  rw [e1, e2, h3]; rfl
/-- An array of two numbers, of a type and its elements'. -/
def isArr2 (C : Ctx) (t e : TypeId) : Bool := match C.ti t, C.ti e with
  | some x, some y => (match x.desc, y.desc with | .array k f, .int _ => Nat.beq k 2 && (Nat.beq f e && (Nat.beq y.size 1 && !y.isAgg)) | _, _ => false)
  | _, _ => false
theorem eqA_arr2 {t e : TypeId} (ht : isArr2 C t e = true) {k : IntKind} {a b c d : Int} (hk : kindEq k k = true) (m : Nat) : eqA C (m + 2) t (.agg [.int k a, .int k b]) (.agg [.int k c, .int k d]) = some (eqI a c && eqI b d) := by
  unfold isArr2 at ht
  split at ht
  case h_2 => cases ht
  rename_i x y hx hy
  split at ht
  case h_2 => cases ht
  rename_i kk f j hd he
  obtain ⟨h1, h2⟩ := and_bool ht
  obtain ⟨h2, h3⟩ := and_bool h2
  obtain ⟨h3, h4⟩ := and_bool h3
  have h1 := Nat.eq_of_beq_eq_true h1
  have h2 := Nat.eq_of_beq_eq_true h2
  have h3 := Nat.eq_of_beq_eq_true h3
  have h4 : y.isAgg = false := by simpa using h4
  subst h1 h2
  have one : ∀ p q : Int, eqA C (m + 1) f (.int k p) (.int k q) = some (eqI p q) := fun p q => by
    show eqStep C (eqA C m) f (.int k p) (.int k q) = _
    unfold eqStep
    rw [hy]
    simp only [he, hk, cond_true]
  show eqStep C (eqA C (m + 1)) t _ _ = _
  unfold eqStep
  rw [hx]
  simp only [hd, hy]
  unfold eqArr
  simp only [partOf, h4, h3]
  show (match eqA C (m + 1) f (.int k a) (.int k c) with | some true => eqArr (eqA C (m + 1) f) y _ _ 1 1 | r => r) = _
  rw [one]
  cases eqI a c with
  | false => rfl
  | true =>
    dsimp only
    unfold eqArr
    simp only [partOf, h4, h3]
    show (match eqA C (m + 1) f (.int k b) (.int k d) with | some true => eqArr (eqA C (m + 1) f) y _ _ 0 2 | r => r) = _
    rw [one]
    cases eqI b d <;> rfl

theorem bLss {t : TypeId} {x y : Int} : binOpA C .lss t (.int .i64 x) (.int .i64 y) = some (.bool (ltI x y)) := rfl
theorem bLeq {t : TypeId} {x y : Int} : binOpA C .leq t (.int .i64 x) (.int .i64 y) = some (.bool (!ltI y x)) := rfl
theorem bGtr {t : TypeId} {x y : Int} : binOpA C .gtr t (.int .i64 x) (.int .i64 y) = some (.bool (ltI y x)) := rfl
theorem bGeq {t : TypeId} {x y : Int} : binOpA C .geq t (.int .i64 x) (.int .i64 y) = some (.bool (!ltI x y)) := rfl
theorem bAdd {t : TypeId} {x y : Int} : binOpA C .add t (.int .i64 x) (.int .i64 y) = some (.int .i64 (wrapF .i64 (addI x y))) := rfl
theorem bin_neq_agg {t : TypeId} {a b : List AV} : binOpA C .neq t (.agg a) (.agg b) = (bif C.eqT t then (match eqA C 100 t (.agg a) (.agg b) with | some b => some (.bool (!b)) | none => none) else none) := rfl
theorem bin_eql_agg {t : TypeId} {a b : List AV} : binOpA C .eql t (.agg a) (.agg b) = (bif C.eqT t then (match eqA C 100 t (.agg a) (.agg b) with | some b => some (.bool b) | none => none) else none) := rfl

/-! ### States, by what is known of them -/
abbrev Env := List (Nat × AV)
def lk : Env → Nat → Option AV
  | [], _ => none
  | (i, v) :: l, t => bif Nat.beq i t then some v else lk l t
def evE (C : Ctx) (l : Env) : Operand → Option AV
  | .tmp t => lk l t
  | .const v => some (ofV v)
  | .global g => some (C.gl g)
  | .func f => some (.fn (.func f) [] [])
structure At (s : St) (n : Nat) (l : Env) (h : Hp) : Prop where
  n : s.n = n
  h : s.h = h
  ds : s.ds = []
  rd : s.rd = none
  tm : ∀ t v, lk l t = some v → tget s.tm t = v
variable {n : Nat} {l l' : Env} {h h1 h' : Hp} {s : St}
theorem At.ev (hs : At s n l h) {x : Operand} {v : AV} (hx : evE C l x = some v) : s.ev C x = v := by
  cases x with
  | tmp t => exact hs.tm t v hx
  | const w => exact Option.some.inj hx
  | global g => exact Option.some.inj hx
  | func f => exact Option.some.inj hx
/-- Less is known. -/
theorem At.less (hs : At s n l h) (hl : ∀ t v, lk l' t = some v → lk l t = some v) : At s n l' h := ⟨hs.n, hs.h, hs.ds, hs.rd, fun t v ht => hs.tm t v (hl t v ht)⟩
def lessB (l l' : Env) : Prop := ∀ t v, lk l' t = some v → lk l t = some v
theorem lessB_nil : lessB l [] := fun t v h => by cases h
theorem lessB_cons {t : Nat} {v : AV} (h1 : lk l t = some v) (h2 : lessB l l') : lessB l ((t, v) :: l') := fun u w hu => by
  unfold lk at hu
  cases hb : Nat.beq t u with
  | true => rw [hb] at hu; cases hu; rw [← Nat.eq_of_beq_eq_true hb]; exact h1
  | false => rw [hb] at hu; exact h2 u w hu
theorem At.put (hs : At s n l h) {d : Nat} (hb : Nat.blt d n = true) (v : AV) (g : Hp) : ∃ s1, putD s (some d) v g = some s1 ∧ At s1 n ((d, v) :: l) g := by
  refine ⟨{ s with tm := s.tm.set d v, h := g }, ?_, ⟨hs.n, rfl, hs.ds, hs.rd, fun t w ht => ?_⟩⟩
  · unfold putD
    dsimp only
    rw [hs.n, hb]
    rfl
  · show tget (s.tm.set d v) t = w
    rw [tget_set]
    unfold lk at ht
    cases hb : Nat.beq d t with
    | true => rw [hb] at ht; cases ht; rw [if_pos (Nat.eq_of_beq_eq_true hb)]
    | false =>
      rw [hb] at ht
      rw [if_neg (fun e => by rw [e, Nat.beq_refl] at hb; cases hb)]
      exact hs.tm t w ht
theorem At.put0 (hs : At s n l h) (v : AV) (g : Hp) : ∃ s1, putD s none v g = some s1 ∧ At s1 n l g := ⟨{ s with h := g }, rfl, hs.n, rfl, hs.ds, hs.rd, hs.tm⟩

/-! ### Operations in a row -/
def OpsTo (P : Program) (C : Ctx) (ih : Code → St → Res) (n : Nat) (all ops : List Oper) (l : Env) (h : Hp) (R : St → Prop) : Prop :=
  ∀ s, At s n l h → ∃ s1, runOps P C ih all ops s = some (.normal, s1) ∧ R s1
variable {ih : Code → St → Res} {all rest : List Oper} {o : Oper} {v : AV} {d : Nat} {R : St → Prop}
theorem OpsTo.nil (k : ∀ s, At s n l h → R s) : OpsTo P C ih n all [] l h R := fun s hs => ⟨s, rfl, k s hs⟩
theorem OpsTo.run {s : St} (hw : wantedA all s o = some true) {g : Hp} (ho : opA P C ih s o = some (.val v g)) {s1 : St} (hp : putD s o.dst v g = some s1) : runOps P C ih all (o :: rest) s = runOps P C ih all rest s1 := by
  show (match wantedA all s o with | none => none | some false => _ | some true => _) = _
  rw [hw]
  dsimp only
  rw [ho]
  dsimp only
  rw [hp]
theorem OpsTo.step (hg : o.guard = none) (hd : o.dst = some d) (hb : Nat.blt d n = true) (ho : ∀ s, At s n l h → opA P C ih s o = some (.val v h1)) (k : OpsTo P C ih n all rest ((d, v) :: l) h1 R) : OpsTo P C ih n all (o :: rest) l h R := fun s hs => by
  obtain ⟨s1, h2, h3⟩ := hs.put hb v h1
  rw [OpsTo.run (by unfold wantedA; rw [hg]) (ho s hs) (by rw [hd]; exact h2)]
  exact k s1 h3
theorem OpsTo.step0 (hg : o.guard = none) (hd : o.dst = none) (ho : ∀ s, At s n l h → opA P C ih s o = some (.val v h1)) (k : OpsTo P C ih n all rest l h1 R) : OpsTo P C ih n all (o :: rest) l h R := fun s hs => by
  obtain ⟨s1, h2, h3⟩ := hs.put0 v h1
  rw [OpsTo.run (by unfold wantedA; rw [hg]) (ho s hs) (by rw [hd]; exact h2)]
  exact k s1 h3
theorem wanted_at {g : Nat} {w b : Bool} {p : Oper} {d' : Nat} (hs : At s n l h) (hg : o.guard = some (g, w)) (hp : all[g]? = some p) (hpd : p.dst = some d') (hv : lk l d' = some (.bool b)) : wantedA all s o = some (b == w) := by
  unfold wantedA
  rw [hg]
  dsimp only
  rw [hp]
  dsimp only
  rw [hpd]
  dsimp only
  rw [hs.tm d' _ hv]
theorem OpsTo.gyes {g : Nat} {w : Bool} {p : Oper} {d' : Nat} (hg : o.guard = some (g, w)) (hp : all[g]? = some p) (hpd : p.dst = some d') (hv : lk l d' = some (.bool w)) (hd : o.dst = some d) (hb : Nat.blt d n = true) (ho : ∀ s, At s n l h → opA P C ih s o = some (.val v h1)) (k : OpsTo P C ih n all rest ((d, v) :: l) h1 R) : OpsTo P C ih n all (o :: rest) l h R := fun s hs => by
  obtain ⟨s1, h2, h3⟩ := hs.put hb v h1
  rw [OpsTo.run (by rw [wanted_at hs hg hp hpd hv]; cases w <;> rfl) (ho s hs) (by rw [hd]; exact h2)]
  exact k s1 h3
theorem OpsTo.gno {g : Nat} {w : Bool} {p : Oper} {d' : Nat} (hg : o.guard = some (g, w)) (hp : all[g]? = some p) (hpd : p.dst = some d') (hv : lk l d' = some (.bool (!w))) (hd : o.dst = some d) (hb : Nat.blt d n = true) (k : OpsTo P C ih n all rest ((d, .tup []) :: l) h R) : OpsTo P C ih n all (o :: rest) l h R := fun s hs => by
  obtain ⟨s1, h2, h3⟩ := hs.put hb (.tup []) h
  have hw : wantedA all s o = some false := by rw [wanted_at hs hg hp hpd hv]; cases w <;> rfl
  obtain ⟨s2, h4, h5⟩ := k s1 h3
  refine ⟨s2, ?_, h5⟩
  show (match wantedA all s o with | none => none | some false => (match putD s o.dst (.tup []) s.h with | some s' => runOps P C ih all rest s' | none => none) | some true => _) = _
  rw [hw]
  dsimp only
  rw [hd, hs.h, h2]
  exact h4

/-- What hangs on an operation that was left out is left out. -/
theorem OpsTo.gskip {g : Nat} {w : Bool} {p : Oper} {d' : Nat} (hg : o.guard = some (g, w)) (hp : all[g]? = some p) (hpd : p.dst = some d') (hv : lk l d' = some (.tup [])) (hd : o.dst = some d) (hb : Nat.blt d n = true) (k : OpsTo P C ih n all rest ((d, .tup []) :: l) h R) : OpsTo P C ih n all (o :: rest) l h R := fun s hs => by
  obtain ⟨s1, h2, h3⟩ := hs.put hb (.tup []) h
  have hw : wantedA all s o = some false := by
    unfold wantedA
    rw [hg]
    dsimp only
    rw [hp]
    dsimp only
    rw [hpd]
    dsimp only
    rw [hs.tm d' _ hv]
  obtain ⟨s2, h4, h5⟩ := k s1 h3
  refine ⟨s2, ?_, h5⟩
  show (match wantedA all s o with | none => none | some false => (match putD s o.dst (.tup []) s.h with | some s' => runOps P C ih all rest s' | none => none) | some true => _) = _
  rw [hw]
  dsimp only
  rw [hd, hs.h, h2]
  exact h4

/-! ### Kinds of operations -/
variable {a b c x y : Operand} {t u ty : TypeId} {pos : String} {aft : Array Edge} {gd : Option (Nat × Bool)} {dd : Option Nat} {p q r : AV}
theorem oMove (hx : evE C l x = some v) : ∀ s, At s n l h → opA P C ih s ⟨dd, .move x, ty, pos, aft, gd⟩ = some (.val v h) := fun s hs => by
  show some (OpR.val (s.ev C x) s.h) = _; rw [hs.ev hx, hs.h]
theorem oAssign (hx : evE C l x = some v) : ∀ s, At s n l h → opA P C ih s ⟨dd, .assign x, ty, pos, aft, gd⟩ = some (.val v h) := fun s hs => by
  show some (OpR.val (s.ev C x) s.h) = _; rw [hs.ev hx, hs.h]
theorem oPick {t : Bool} (hc : evE C l c = some (.bool t)) (hx : evE C l (bif t then x else y) = some v) : ∀ s, At s n l h → opA P C ih s ⟨dd, .pick c x y, ty, pos, aft, gd⟩ = some (.val v h) := fun s hs => by
  show (match s.ev C c with | .bool t => some (OpR.val (bif t then s.ev C x else s.ev C y) s.h) | _ => none) = _
  rw [hs.ev hc]
  cases t <;> (dsimp only [cond] at hx ⊢; rw [hs.ev hx, hs.h])
theorem oAlloc (hx : alloc C t h = some (v, h1)) : ∀ s, At s n l h → opA P C ih s ⟨dd, .alloc t, ty, pos, aft, gd⟩ = some (.val v h1) := fun s hs => by
  show ov (fun x => OpR.val x.1 x.2) (alloc C t s.h) = _; rw [hs.h, hx]; rfl
theorem oBox (hx : evE C l x = some p) (hb : box t p h = some (v, h1)) : ∀ s, At s n l h → opA P C ih s ⟨dd, .box t x, ty, pos, aft, gd⟩ = some (.val v h1) := fun s hs => by
  show ov (fun x => OpR.val x.1 x.2) (box t (s.ev C x) s.h) = _; rw [hs.h, hs.ev hx, hb]; rfl
theorem oLoad (hx : evE C l x = some p) (hb : loadAt C t p h = some v) : ∀ s, At s n l h → opA P C ih s ⟨dd, .load t x, ty, pos, aft, gd⟩ = some (.val v h) := fun s hs => by
  show ov (fun x => OpR.val x s.h) (loadAt C t (s.ev C x) s.h) = _; rw [hs.h, hs.ev hx, hb]; rfl
theorem oStore (hx : evE C l x = some p) (hy : evE C l y = some q) (hb : storeAt C t p q h = some h1) : ∀ s, At s n l h → opA P C ih s ⟨dd, .store t x y, ty, pos, aft, gd⟩ = some (.val .undef h1) := fun s hs => by
  show ov (fun h => OpR.val .undef h) (storeAt C t (s.ev C x) (s.ev C y) s.h) = _; rw [hs.h, hs.ev hx, hs.ev hy, hb]; rfl
theorem oField {k : Nat} (hx : evE C l x = some p) (hb : fieldAt C t p k = some v) : ∀ s, At s n l h → opA P C ih s ⟨dd, .fieldAddr t x k, ty, pos, aft, gd⟩ = some (.val v h) := fun s hs => by
  show ov (fun x => OpR.val x s.h) (fieldAt C t (s.ev C x) k) = _; rw [hs.h, hs.ev hx, hb]; rfl
theorem oIndex (hx : evE C l x = some p) (hy : evE C l y = some q) (hb : indexAt C t p q = some v) : ∀ s, At s n l h → opA P C ih s ⟨dd, .indexAddr t x y, ty, pos, aft, gd⟩ = some (.val v h) := fun s hs => by
  show ov (fun x => OpR.val x s.h) (indexAt C t (s.ev C x) (s.ev C y)) = _; rw [hs.h, hs.ev hx, hs.ev hy, hb]; rfl
theorem oConv (hx : evE C l x = some p) (hb : convA C t u p = some v) : ∀ s, At s n l h → opA P C ih s ⟨dd, .convert t u x, ty, pos, aft, gd⟩ = some (.val v h) := fun s hs => by
  show ov (fun x => OpR.val x s.h) (convA C t u (s.ev C x)) = _; rw [hs.h, hs.ev hx, hb]; rfl
theorem oUn {k : UnOp} (hx : evE C l x = some p) (hb : unOpA k p = some v) : ∀ s, At s n l h → opA P C ih s ⟨dd, .unOp k t x, ty, pos, aft, gd⟩ = some (.val v h) := fun s hs => by
  show ov (fun x => OpR.val x s.h) (unOpA k (s.ev C x)) = _; rw [hs.h, hs.ev hx, hb]; rfl
def notNilif : AV → Bool
  | .nilif => false
  | _ => true
theorem oBin {k : BinOp} (hx : evE C l x = some p) (hy : evE C l y = some q) (hn : notNilif p = true) (hb : binOpA C k t p q = some v) : ∀ s, At s n l h → opA P C ih s ⟨dd, .binOp k t x y u, ty, pos, aft, gd⟩ = some (.val v h) := fun s hs => by
  unfold opA
  dsimp only
  rw [hs.ev hx, hs.ev hy]
  cases p <;> first | (cases hn; done) | (dsimp only; rw [hb, hs.h]; rfl)
theorem oLen {k : List TypeId} (hx : evE C l x = some p) (hb : lenOfA C t p h = some v) : ∀ s, At s n l h → opA P C ih s ⟨dd, .call { callee := .builtin .len, args := #[x], argTypes := ⟨t :: k⟩ }, ty, pos, aft, gd⟩ = some (.val v h) := fun s hs => by
  show (match lenOfA C t (s.ev C x) s.h with | some v => some (OpR.val v s.h) | none => none) = _; rw [hs.h, hs.ev hx, hb]
theorem oBuild2 {i j : Nat} (hx : evE C l x = some p) (hy : evE C l y = some q) (hb : build C t [(i, p), (j, q)] = some v) : ∀ s, At s n l h → opA P C ih s ⟨dd, .build t #[(i, x), (j, y)], ty, pos, aft, gd⟩ = some (.val v h) := fun s hs => by
  show ov (fun x => OpR.val x s.h) (build C t [(i, s.ev C x), (j, s.ev C y)]) = _; rw [hs.h, hs.ev hx, hs.ev hy, hb]; rfl
theorem oCall2 {f : FuncId} {ts : Array TypeId} (hx : evE C l x = some p) (hy : evE C l y = some q) (hc : callF C ih f [p, q] h = some (.val v h1)) :
    ∀ s, At s n l h → opA P C ih s ⟨dd, .call { callee := .value (.func f), args := #[x, y], argTypes := ts }, ty, pos, aft, gd⟩ = some (.val v h1) := fun s hs => by
  show callF C ih f [s.ev C x, s.ev C y] s.h = _
  rw [hs.ev hx, hs.ev hy, hs.h, hc]
theorem oCall {f : FuncId} {as : Array Operand} {ts : Array TypeId} {args : List AV} (ha : ∀ s, At s n l h → allA C s as.toList = args) (hc : callF C ih f args h = some (.val v h1)) :
    ∀ s, At s n l h → opA P C ih s ⟨dd, .call { callee := .value (.func f), args := as, argTypes := ts }, ty, pos, aft, gd⟩ = some (.val v h1) := fun s hs => by
  show callF C ih f ([] ++ allA C s as.toList ++ []) s.h = _
  rw [ha s hs, hs.h, List.nil_append, List.append_nil, hc]

/-! ### Regions that draw, where all operations only look -/
def quietOp (o : Oper) : Bool :=
  match o.op with
  | .move _ => true
  | .assign _ => true
  | .pick _ _ _ => true
  | .load _ _ => true
  | .binOp _ _ _ _ _ => true
  | .unOp _ _ _ => true
  | .convert _ _ _ => true
  | .fieldAddr _ _ _ => true
  | .field _ _ _ => true
  | .indexAddr _ _ _ => true
  | .index _ _ _ => true
  | .build _ _ => true
  | .call c => (match c.callee, c.args.toList with | .builtin .len, _ :: _ => true | _, _ => false)
  | _ => false
theorem ov_val {α : Type} {f : α → OpR} {x : Option α} {r : OpR} (h : ov f x = some r) : ∃ y, x = some y ∧ r = f y := by
  cases x with
  | none => cases h
  | some y => cases h; exact ⟨y, rfl, rfl⟩
theorem len_val {ts : List TypeId} {as : List AV} {r : OpR} (hb : builtinA C .len ts as h = some r) : ∃ v, r = .val v h := by
  cases ts with
  | nil => cases as <;> cases hb
  | cons t ts => cases as with
    | nil => cases hb
    | cons x as =>
      have hb : (match lenOfA C t x h with | some v => some (OpR.val v h) | none => none) = some r := hb
      split at hb <;> cases hb
      exact ⟨_, rfl⟩
theorem quiet_heap {s : St} {o : Oper} {v : AV} {g : Hp} (hq : quietOp o = true) (ho : opA P C ih s o = some (.val v g)) : g = s.h := by
  unfold quietOp at hq
  unfold opA at ho
  cases hop : o.op <;> rw [hop] at hq ho <;> dsimp only at hq ho <;> first
    | (cases hq; done)
    | (cases ho; rfl)
    | (obtain ⟨y, _, he⟩ := ov_val ho; cases he; rfl)
    | skip
  case pick c a b => split at ho <;> cases ho; rfl
  case binOp op t x y u =>
    split at ho
    · split at ho
      · split at ho <;> cases ho; rfl
      · split at ho <;> cases ho; rfl
      · cases ho
    · obtain ⟨y, _, he⟩ := ov_val ho; cases he; rfl
  case call c =>
    cases hc : c.callee with
    | value f => rw [hc] at hq; cases hq
    | invoke r n => rw [hc] at hq; cases hq
    | builtin b =>
      rw [hc] at hq ho
      cases b <;> first
        | (cases hq; done)
        | skip
      obtain ⟨w, he⟩ := len_val ho
      cases he; rfl
theorem quiet_fp {s : St} {o : Oper} (hq : quietOp o = true) : ∃ rd, fpOf C s o = some (rd, []) := by
  unfold quietOp at hq
  unfold fpOf
  cases hop : o.op <;> rw [hop] at hq <;> dsimp only at hq ⊢ <;> first
    | (cases hq; done)
    | exact ⟨_, rfl⟩
    | skip
  rename_i c
  cases hc : c.callee with
  | value f => rw [hc] at hq; cases hq
  | invoke r n => rw [hc] at hq; cases hq
  | builtin b =>
    rw [hc] at hq
    cases b <;> first
      | (cases hq; done)
      | skip
    cases ha : c.args.toList with
    | nil => rw [ha] at hq; cases hq
    | cons x k => exact ⟨_, rfl⟩
theorem clash_quiet {a b : FP} (ha : a.wr = some []) (hn : a.nl = a.nh) (hb : b.wr = some []) : FP.clash a b = false := by
  unfold FP.clash
  rw [ha, hb]
  have h1 : ∀ r : List Nat, r.any (inR a.nl a.nh) = false := fun r => by
    rw [List.any_eq_false]
    intro x _
    unfold inR
    rw [hn]
    cases h2 : Nat.ble a.nh x with
    | false => simp
    | true =>
      have := Nat.le_of_ble_eq_true h2
      cases h3 : Nat.blt x a.nh with
      | false => simp
      | true => have := Nat.le_of_ble_eq_true h3; omega
  cases b.rd with
  | none => rfl
  | some r => dsimp only; rw [h1]; simp [overlap]
theorem clashFree_quiet {ms : List Nat} {b : FP} (hb : b.wr = some []) : ∀ (l : List FP), (∀ a ∈ l, a.wr = some [] ∧ a.nl = a.nh) → clashFree ms b l = true
  | [], _ => rfl
  | a :: l, h => by
    unfold clashFree
    obtain ⟨h1, h2⟩ := h a List.mem_cons_self
    rw [clash_quiet h1 h2 hb]
    exact clashFree_quiet hb l fun x hx => h x (List.mem_cons_of_mem _ hx)
theorem runDraw_quiet {ms : List Nat} {all : List Oper} : ∀ (l : List Oper) (i : Nat) (fps : List FP) (s s1 : St), (∀ o ∈ l, quietOp o = true) → (∀ f ∈ fps, f.wr = some [] ∧ f.nl = f.nh) → s.h.lo ≤ s.h.nx →
    runOps P C ih all l s = some (.normal, s1) → runDraw P C ih all ms l i fps s = some (.normal, s1)
  | [], i, fps, s, s1, _, _, _, h => h
  | o :: l, i, fps, s, s1, hq, hf, hlo, h => by
    unfold runOps at h
    unfold runDraw
    have hqo := hq o List.mem_cons_self
    have hql := fun x hx => hq x (List.mem_cons_of_mem o hx)
    split at h
    · cases h
    · split at h
      case h_2 => cases h
      rename_i s2 hp
      obtain ⟨p1, _⟩ := putD_st hp
      exact runDraw_quiet l _ fps s2 s1 hql hf (by rw [p1]; exact hlo) h
    · split at h
      · rename_i v g ho
        obtain rfl := quiet_heap hqo ho
        split at h
        case h_2 => cases h
        rename_i s2 hp
        dsimp only
        obtain ⟨rd, hfp⟩ := quiet_fp (C := C) (s := s) hqo
        obtain ⟨g', h1, h2, _⟩ := opA_loc (s' := { s with h := { s.h with lo := s.h.nx } }) hfp ho (fun x _ => by cases x <;> rfl) rfl (fun _ _ => rfl)
        obtain rfl := quiet_heap hqo h1
        rw [h1]
        dsimp only
        have he : fpAt C s o i { s.h with lo := s.h.nx } = { i := i, rd := some rd, wr := some [], nl := s.h.nx, nh := s.h.nx } := by unfold fpAt; rw [hfp]
        rw [he]
        have hs : ({ nx := s.h.nx, m := s.h.m, lo := bif s.h.lo.ble s.h.nx then s.h.lo else s.h.nx } : Hp) = s.h := by rw [Nat.ble_eq_true_of_le hlo]; rfl
        have hn : ∃ fps', fpNext ms { i := i, rd := some rd, wr := some [], nl := s.h.nx, nh := s.h.nx } fps = some fps' ∧ ∀ f ∈ fps', f.wr = some [] ∧ f.nl = f.nh := by
          unfold fpNext
          cases rd with
          | nil =>
            dsimp only
            cases Nat.blt s.h.nx s.h.nx with
            | true => exact ⟨_, rfl, fun f hm => (List.mem_cons.1 hm).elim (fun e => by subst e; exact ⟨rfl, rfl⟩) (hf f)⟩
            | false => exact ⟨_, rfl, hf⟩
          | cons r k =>
            dsimp only
            rw [clashFree_quiet rfl fps hf]
            exact ⟨_, rfl, fun f hm => (List.mem_cons.1 hm).elim (fun e => by subst e; exact ⟨rfl, rfl⟩) (hf f)⟩
        obtain ⟨fps', h3, h4⟩ := hn
        rw [h3]
        dsimp only
        rw [hs, hp]
        dsimp only
        obtain ⟨p1, _⟩ := putD_st hp
        exact runDraw_quiet l _ fps' s2 s1 hql h4 (by rw [p1]; exact hlo) h
      · rename_i d ho
        split at h
        · split at h <;> first | (cases h; done) | skip
          exfalso
          unfold quietOp at hqo
          unfold opA at ho
          cases hop : o.op <;> rw [hop] at hqo ho <;> dsimp only at hqo ho <;> first
            | (cases hqo; done)
            | (cases ho; done)
            | (obtain ⟨y, _, he⟩ := ov_val ho; cases he; done)
            | skip
          case pick => split at ho <;> cases ho
          case binOp =>
            split at ho
            · split at ho
              · split at ho <;> cases ho
              · split at ho <;> cases ho
              · cases ho
            · obtain ⟨y, _, he⟩ := ov_val ho; cases he
          case call c =>
            cases hc : c.callee with
            | value f => rw [hc] at hqo; cases hqo
            | invoke r n => rw [hc] at hqo; cases hqo
            | builtin b =>
              rw [hc] at hqo ho
              cases b <;> first
                | (cases hqo; done)
                | skip
              obtain ⟨w, he⟩ := len_val ho
              cases he
        · cases h
      · cases h
      · cases h
theorem draw_to {i : Nat} {ops : Array Oper} (hok : drawOk ops.toList ops.toList (masks [] ops.toList) 0 [] = true) (hq : (ops.toList.all quietOp) = true) (hlo : h.lo ≤ h.nx) (k : OpsTo P C nix n ops.toList ops.toList l h R) (hs : At s n l h) : ∃ s1, Runs P C (.region i ops true) s .normal s1 ∧ R s1 := by
  obtain ⟨s1, h1, h2⟩ := k s hs
  refine ⟨s1, Runs.draw ?_, h2⟩
  unfold drawF
  rw [hok]
  exact runDraw_quiet _ _ _ _ _ (fun o ho => List.all_eq_true.1 hq o ho) (fun f hf => by cases hf) (by rw [hs.h]; exact hlo) h1

/-! ### What code comes to -/
def Wp (P : Program) (C : Ctx) (c : Code) (s : St) (Q : Ex → St → Prop) : Prop := ∃ e s', Runs P C c s e s' ∧ Q e s'
variable {Q Q' : Ex → St → Prop} {ca cb : Code}
theorem Wp.mono (k : Wp P C ca s Q) (hq : ∀ e s', Q e s' → Q' e s') : Wp P C ca s Q' := by
  obtain ⟨e, s', h1, h2⟩ := k
  exact ⟨e, s', h1, hq e s' h2⟩
theorem Wp.seq (k : Wp P C ca s fun e s1 => match e with | .normal => Wp P C cb s1 Q | e => Q e s1) : Wp P C (.seq ca cb) s Q := by
  obtain ⟨e, s1, h1, h2⟩ := k
  cases e with
  | normal => obtain ⟨e, s2, h3, h4⟩ := h2; exact ⟨e, s2, h1.seq h3, h4⟩
  | exit i => exact ⟨_, s1, h1.seq_out nofun, h2⟩
  | goto i => exact ⟨_, s1, h1.seq_out nofun, h2⟩
  | ret => exact ⟨_, s1, h1.seq_out nofun, h2⟩
  | panic v => exact ⟨_, s1, h1.seq_out nofun, h2⟩
theorem Wp.cond {x : Operand} {b : Bool} (hs : At s n l h) (hx : evE C l x = some (.bool b)) (k : Wp P C (bif b then ca else cb) s Q) : Wp P C (.cond x ca cb) s Q := by
  obtain ⟨e, s1, h1, h2⟩ := k
  exact ⟨e, s1, Runs.cond (hs.ev hx) h1, h2⟩
theorem Wp.block {i : Nat} (k : Wp P C ca s fun e s' => Q (outOf i e) s') : Wp P C (.block i ca) s Q := by
  obtain ⟨e, s1, h1, h2⟩ := k
  exact ⟨_, s1, Runs.block h1, h2⟩
theorem Wp.skip (k : Q .normal s) : Wp P C .skip s Q := ⟨_, s, Runs.skip, k⟩
theorem Wp.ret (k : Q .ret s) : Wp P C .ret s Q := ⟨_, s, Runs.ret, k⟩
theorem Wp.exit {i : Nat} (k : Q (.exit i) s) : Wp P C (.exit i) s Q := ⟨_, s, Runs.exit, k⟩
theorem Wp.loop (k : Wp P C ca s fun e s1 => match e with | .normal => Wp P C (.loop ca) s1 Q | e => Q e s1) : Wp P C (.loop ca) s Q := by
  obtain ⟨e, s1, h1, h2⟩ := k
  cases e with
  | normal => obtain ⟨e, s2, h3, h4⟩ := h2; exact ⟨e, s2, h1.loop_more h3, h4⟩
  | exit i => exact ⟨_, s1, h1.loop_out nofun, h2⟩
  | goto i => exact ⟨_, s1, h1.loop_out nofun, h2⟩
  | ret => exact ⟨_, s1, h1.loop_out nofun, h2⟩
  | panic v => exact ⟨_, s1, h1.loop_out nofun, h2⟩
theorem Wp.region {i : Nat} {ops : Array Oper} (hs : At s n l h) (k : OpsTo P C nix n ops.toList ops.toList l h fun s1 => Q .normal s1) : Wp P C (.region i ops false) s Q := by
  obtain ⟨s1, h1, h2⟩ := k s hs
  exact ⟨_, s1, Runs.region h1, h2⟩
theorem Wp.regionC {i m : Nat} {ops : Array Oper} (hs : At s n l h) (k : OpsTo P C (exec P C m) n ops.toList ops.toList l h fun s1 => Q .normal s1) : Wp P C (.region i ops false) s Q := by
  obtain ⟨s1, h1, h2⟩ := k s hs
  exact ⟨_, s1, Runs.regionC h1, h2⟩
theorem Wp.draw {i : Nat} {ops : Array Oper} (hs : At s n l h) (hok : drawOk ops.toList ops.toList (masks [] ops.toList) 0 [] = true) (hqu : (ops.toList.all quietOp) = true) (hlo : h.lo ≤ h.nx) (k : OpsTo P C nix n ops.toList ops.toList l h fun s1 => Q .normal s1) : Wp P C (.region i ops true) s Q := by
  obtain ⟨s1, h1, h2⟩ := draw_to hok hqu hlo k hs
  exact ⟨_, s1, h1, h2⟩
/-- A call, by its body. -/
theorem callsTo_of {f : FuncId} {fn : Func} {c : Code} {args : List AV} {v : AV} (hf : C.fn.get f = some fn) (hb : fn.body = some c) (ho : C.orc f args = none) (hn : Nat.ble args.length fn.ntmps = true)
    (k : ∀ h : Hp, h.lo ≤ h.nx → Wp P C c { n := fn.ntmps, tm := setArgs .e 0 args, h := h, ds := [], rd := none } fun e s => (e = .normal ∨ e = .ret) ∧ s.ds = [] ∧ Grow h s.h ∧ ∃ vs, resultsA C s fn.results.toList = some vs ∧ tupOf vs = v) : ∀ h : Hp, h.lo ≤ h.nx → ∃ n h', call P C n f args h = some (.val v h') ∧ Grow h h' := fun h hlo => by
  obtain ⟨e, ⟨n0, tm0, hp0, ds0, rd0⟩, ⟨n, h1⟩, h2, h3, h4, vs, h5, rfl⟩ := k h hlo
  dsimp only at h3 h4
  subst h3
  refine ⟨n, hp0, ?_, h4⟩
  unfold call callF
  rw [hf]
  dsimp only
  rw [hb]
  dsimp only
  rw [ho]
  dsimp only
  rw [hn]
  simp only [cond_true]
  rw [h1]
  rcases h2 with rfl | rfl <;> (dsimp only; unfold dropMarks; dsimp only; rw [h5])
theorem at_args {args : List AV} {l : Env} {h : Hp} {n : Nat} (hl : ∀ t v, lk l t = some v → args[t]? = some v) : At { n := n, tm := setArgs .e 0 args, h := h, ds := [], rd := none } n l h :=
  ⟨rfl, rfl, rfl, rfl, fun t v ht => by show tget (setArgs .e 0 args) t = v; rw [tget_setArgs, if_pos (Nat.zero_le _), Nat.sub_zero, hl t v ht]⟩
end
end Go.Ax

/- Arguments that read as data: what stands for them. -/
namespace Go.Ax
section
variable {H : Type} {enc : TypeId × Value → H} {P : Program} {W : World} {spare : Nat → Bool} {held : Bool} {m : Loc} {fuel : Nat}

theorem Addr.add_block (a : Addr) (n : Nat) : (a.add n).block = a.block := by unfold Addr.add; split <;> rfl
theorem Addr.add_off (a : Addr) (n : Nat) : (a.add n).off = a.off + n := by unfold Addr.add; split <;> simp_all
theorem Addr.add_spot {a : Addr} (h : a.spot = none) (n : Nat) : (a.add n).spot = none := by unfold Addr.add; split <;> simp_all
theorem cell_at {a : Addr} {v : Value} (h : W.cell? a = some v) : ∃ arr e fz, W.heap[a.block]? = some (.cells arr e fz) ∧ a.spot = none ∧ arr[a.off]? = some v := by
  unfold World.cell? at h
  split at h
  · rename_i c e fz hb
    split at h
    · cases h
    · rename_i hs
      exact ⟨c, e, fz, hb, by simpa using hs, h⟩
  · cases h

/-- What stands for a slice whose elements are told by so many cells each. -/
def slOf {β : Type} (f : β → List AV) : Option (List β) → AV
  | none => .nilsl
  | some l => .isl (l.map f)
theorem slice_rel {β : Type} {f : β → List AV} {good : β → Prop} {t e : TypeId} {es : Nat} {v : Value} {x : DataW H × List MemPlace} (ht : P.underlying t = some (.slice e)) (hes : P.cellsOf e = es) (hpos : 0 < es)
    (hel : ∀ n cs' y, DataW.trod enc P W 0 spare held n e cs' = some y → ∃ q : β, good q ∧ LRel P (frozen W) m (f q) cs')
    (h : DataW.trod enc P W 0 spare held fuel t [v] = some x) : ∃ E : Option (List β), VRel P (frozen W) m (slOf f E) v ∧ (∀ l, E = some l → ∀ q ∈ l, good q) := by
  rcases Go.Deep.open_slice ht h with ⟨hv, _⟩ | ⟨a, len, cap, k, n, D, Pl, hv, _, hl, _, hk, _, hx⟩
  · cases hv
    exact ⟨none, .nilsl, fun l hl => by cases hl⟩
  · cases hv
    rw [hes] at hx
    by_cases h0 : len = 0
    · subst h0
      exact ⟨some [], .isl0 _ _, fun l hl q hq => by cases hl; cases hq⟩
    have hkl : len ≤ k := by rw [hk]; split <;> omega
    have hall : ∀ i, i < len → ∃ q cs', good q ∧ LRel P (frozen W) m (f q) cs' ∧ W.cells? 0 (a.add (i * es)) es = some cs' := fun i hi => by
      obtain ⟨cs', h1, h2⟩ := hx i (by omega)
      obtain ⟨q, hq, hr⟩ := hel n cs' _ h2
      exact ⟨q, cs', hq, hr, h1⟩
    -- the block
    obtain ⟨q0, cs0, _, _, hc0⟩ := hall 0 (by omega)
    obtain ⟨_, hlen0, hcell0⟩ := World.cells?_some hc0
    have hz := hcell0 0 hpos
    rw [List.getElem?_eq_getElem (by omega)] at hz
    rw [Nat.zero_mul] at hz
    have ha0 : (a.add 0).add 0 = a := by unfold Addr.add; simp
    rw [ha0] at hz
    obtain ⟨arr, e0, fz, hb, hsp, _⟩ := cell_at hz
    -- the elements
    let Q : Nat → β := fun i => if hi : i < len then Classical.choose (hall i hi) else q0
    have hQ : ∀ i, i < len → ∃ cs', good (Q i) ∧ LRel P (frozen W) m (f (Q i)) cs' ∧ W.cells? 0 (a.add (i * es)) es = some cs' := fun i hi => by
      show ∃ cs', good (if hi : i < len then Classical.choose (hall i hi) else q0) ∧ LRel P (frozen W) m (f (if hi : i < len then Classical.choose (hall i hi) else q0)) cs' ∧ _
      rw [dif_pos hi]
      exact Classical.choose_spec (hall i hi)
    have hcell : ∀ i j, i < len → j < es → ∃ x y, (f (Q i))[j]? = some x ∧ arr[a.off + i * es + j]? = some y ∧ VRel P (frozen W) m x y := fun i j hi hj => by
      obtain ⟨cs', _, hr, hc⟩ := hQ i hi
      obtain ⟨_, hlen, hcl⟩ := World.cells?_some hc
      have h1 := hcl j hj
      have hj2 : j < cs'.length := by omega
      rw [List.getElem?_eq_getElem hj2] at h1
      obtain ⟨arr', e', fz', g1, _, g3⟩ := cell_at h1
      rw [Addr.add_block, Addr.add_block, hb] at g1
      cases g1
      rw [Addr.add_off, Addr.add_off] at g3
      have hjf : j < (f (Q i)).length := by rw [hr.len]; exact hj2
      exact ⟨(f (Q i))[j], cs'[j], List.getElem?_eq_getElem hjf, g3, hr.at' j _ _ (List.getElem?_eq_getElem hjf) (List.getElem?_eq_getElem hj2)⟩
    have hflen : ∀ i, i < len → (f (Q i)).length = es := fun i hi => by
      obtain ⟨cs', _, hr, hc⟩ := hQ i hi
      rw [hr.len]; exact (World.cells?_some hc).2.1
    refine ⟨some ((List.range len).map Q), ?_, fun l hl q hq => ?_⟩
    · have hL : (((List.range len).map Q).map f).length = len := by simp
      have hat : ∀ i c, (((List.range len).map Q).map f)[i]? = some c → i < len ∧ c = f (Q i) := fun i c hc => by
        have hi : i < len := by have := (List.getElem?_eq_some_iff.1 hc).1; rw [hL] at this; exact this
        refine ⟨hi, ?_⟩
        rw [List.getElem?_map, List.getElem?_map, List.getElem?_range hi] at hc
        simpa using hc.symm
      obtain ⟨ab, ao, asp⟩ := a
      dsimp only at hsp hb hcell
      subst hsp
      have := VRel.isl (P := P) (F := frozen W) (m := m) (xs := ((List.range len).map Q).map f) (b := ab) (off := ao) (cap := cap) (arr := arr) (e := e0) (fz := fz) es (fun i j => arr.getD (ao + i * es + j) Go.undef) (.inl hb) (by rw [hL]; exact hl)
        (fun c hc => by
          obtain ⟨i, hi, rfl⟩ := List.getElem_of_mem hc
          obtain ⟨h1, h2⟩ := hat i _ (List.getElem?_eq_getElem hi)
          rw [h2]; exact hflen i h1)
        (fun i j hi hj => by
          rw [hL] at hi
          obtain ⟨x, y, _, hy, _⟩ := hcell i j hi hj
          rw [Array.getD_eq_getD_getElem?, hy]; rfl)
        (fun i j c x hc hx => by
          obtain ⟨h1, rfl⟩ := hat i c hc
          have hj : j < es := by have := (List.getElem?_eq_some_iff.1 hx).1; rw [hflen i h1] at this; exact this
          obtain ⟨x', y, hx', hy, hr⟩ := hcell i j h1 hj
          rw [hx] at hx'
          cases hx'
          rw [Array.getD_eq_getD_getElem?, hy]; exact hr)
      rw [hL] at this
      exact this
    · cases hl
      obtain ⟨i, hi, rfl⟩ := List.mem_map.1 hq
      obtain ⟨_, hg, _⟩ := hQ i (List.mem_range.1 hi)
      exact hg

/-- A number. -/
theorem int_rel {t : TypeId} {k : IntKind} {cs : List Value} {x : DataW H × List MemPlace} (ht : P.underlying t = some (.int k)) (h : DataW.trod enc P W 0 spare held fuel t cs = some x) : ∃ n, cs = [.int k n] ∧ (Lit.int k n).wf = true := by
  cases fuel with
  | zero => simp [DataW.trod] at h
  | succ f =>
    unfold DataW.trod at h
    rw [ht] at h
    split at h <;> simp_all
theorem u8_nat {n : Int} (h : (Lit.int .u8 n).wf = true) : ∃ k : Nat, n = .ofNat k ∧ k < 256 := by
  simp [Lit.wf, IntKind.min, IntKind.max, IntKind.signed, IntKind.bits] at h
  exact ⟨n.toNat, by simp; omega, by omega⟩
/-- A struct: field by field. -/
theorem struct_rel {t : TypeId} {fs : Array Field} {cs : List Value} {x : DataW H × List MemPlace} (ht : P.underlying t = some (.struct fs)) (h : DataW.trod enc P W 0 spare held fuel t cs = some x) :
    cs.length = P.cellsOf t ∧ ∀ (i : Nat) (f : Field), fs[i]? = some f → ∃ n y, DataW.trod enc P W 0 spare held n f.type ((cs.drop f.offset).take (P.cellsOf f.type)) = some y := by
  obtain ⟨xs, n, _, _, h1, h2, h3⟩ := DataW.trod_struct ht h
  refine ⟨h1, fun i f hf => ?_⟩
  have hi : i < xs.length := by rw [h2]; exact (Array.getElem?_eq_some_iff.1 hf).1
  exact ⟨n, xs[i], by rw [h3 i f hf, List.getElem?_eq_getElem hi]⟩
end

/-! ### What read in a world reads behind a call that has turned nothing of it -/
theorem slicesFull {P : Program} (h : ((List.range P.types.size).all fun t => match P.underlying t with | some (.slice e) => decide (0 < P.cellsOf e) | _ => true) = true) : ∀ {t e : TypeId}, t < P.types.size → P.underlying t = some (.slice e) → 0 < P.cellsOf e := fun {t e} hl ht => by
  have := List.all_eq_true.1 h t (List.mem_range.2 hl)
  rw [ht] at this
  simpa using this
theorem trodAll_stays {H : Type} {enc : TypeId × Value → H} {P : Program} {W W' : World} (hl : laidOutB P = true) (hm : mapsRowed P = true) (hz : ((List.range P.types.size).all fun t => match P.underlying t with | some (.slice e) => decide (0 < P.cellsOf e) | _ => true) = true)
    (hb : Go.RowKit.Below W.heap.size W W') : ∀ {ts : List TypeId} {vs : List Value} {ds : List (DataW H)} {ps : List MemPlace}, (∀ t ∈ ts, t < P.types.size) → DataW.TrodAll enc P W 0 (fun _ => true) true ts vs ds ps → (∀ p ∈ ps, p.block < W.heap.size) → DataW.TrodAll enc P W' 0 (fun b => decide (b < W.heap.size)) true ts vs ds ps
  | [], [], [], _, _, h, _ => h
  | t :: ts, v :: vs, d :: ds, _, hT, ⟨p, q, ⟨n, h1⟩, h2, e⟩, hlt => by
    have lt : ∀ x ∈ p, x.block < W.heap.size := fun x hx => hlt x (by rw [e]; exact List.mem_append_left _ hx)
    exact ⟨p, q, ⟨n, DataW.trod_stays (kids_rows hl hm) (slicesFull hz) (fun h => by cases h) (hT t List.mem_cons_self) h1 (fun x hx => hb.same (lt x hx)) (fun x hx => by simpa using lt x hx)⟩,
      trodAll_stays hl hm hz hb (fun t ht => hT t (List.mem_cons_of_mem _ ht)) h2 (fun x hx => hlt x (by rw [e]; exact List.mem_append_right _ hx)), e⟩
  | [], [], _ :: _, _, _, h, _ => by simp [DataW.TrodAll] at h
  | [], _ :: _, _, _, _, h, _ => by simp [DataW.TrodAll] at h
  | _ :: _, [], _, _, _, h, _ => by simp [DataW.TrodAll] at h
  | _ :: _, _ :: _, [], _, _, h, _ => by simp [DataW.TrodAll] at h

/-- A law that the abstract machine takes to 'true', whatever stands for its arguments. -/
theorem law_call {P : Program} {W : World} {gl : Nat → AV} {K : Knob} {n : Nat} {f : FuncId} {as : List AV} {args : Array Value} {h' : Hp} (hP : POk P (frozen W) gl K) (hA : LRel P (frozen W) ⟨fun _ => none, fun _ => none⟩ as args.toList)
    (hrun : call P (Ctx.of P gl K) n f as h0 = some (.val (.bool true) h')) : Calls P f args W fun e W' => e = .returned (.bool true) ∧ Go.RowKit.Below W.heap.size W W' := by
  obtain ⟨v, g, hr, _, hcall⟩ := call_sound hP hrun
  cases hr
  have no : ∀ r o, ¬ h0.get r = some o := fun r o hg => by
    have : h0.get r = none := Tr.get_e r
    rw [this] at hg; cases hg
  have hR : HRel P (frozen W) ⟨fun _ => none, fun _ => none⟩ h0 W := hrel0 (m := ⟨fun _ => none, fun _ => none⟩) fun b o hb => hb.elim id fun h => by cases h
  have h1 := callsIn_wide.1 (hcall ⟨fun _ => none, fun _ => none⟩ W 0 args hR hA (fun _ _ _ => rfl))
  refine h1.mono fun e W' he => ?_
  obtain ⟨cv, m', rfl, hs, hv⟩ := he
  obtain rfl := hv.bool_inv
  exact ⟨rfl, hs.same.os, hs.same.tape, hs.same.output, hs.size, fun k hk => hs.old k hk fun r o z hg => absurd hg (no r o)⟩
end Go.Ax
