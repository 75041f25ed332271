import Derived.Test.YtflfodegogjefaaGreatDoorW04
set_option linter.unusedSimpArgs false
set_option linter.unusedVariables false
set_option maxRecDepth 20000
noncomputable section
namespace Go.Ax
open Go.Proofs
attribute [local irreducible] TW TO CallsT PureC
variable {F : Nat → Option Obj} {gl : Nat → AV} {K : Knob}
def great3 (t : List LType) : Bool := (t.take 30).any (fun x => decide (20 < x.parts.list.length)) || decide (20 < t.length)
theorem Great3_pure (hP : POk Tryz.prog F gl K) (t : Sl LType) : PureC Tryz.prog F N_fescueref03_Great [t.av LType.cells] (.bool (great3 t.list)) := by
 refine CallsT.pure (O := fun u _ => u = .bool (great3 t.list)) (k := 1) (by simp) ?_ (fun u g e => by subst e; rfl)
 refine CallsT.body hP nix_sound E_fescueref03_Great rfl rfl ?_
 repeat' first | refine TW.seq ?_ | refine TW.block ?_ | (refine TW.regG hP (by simp <;> rfl) ?_; dsimp only [goK])
 refine TW.loopL (fun i : Nat => [(0, t.av LType.cells), (2, .bool false), (3, .int .i64 i)]) (fun i _ => i ≤ t.list.length ∧ i ≤ 30 ∧ (t.list.take i).any (fun x => decide (20 < x.parts.list.length)) = false) (fun i => t.list.length - i) (0) ?_ ?_ ?_
 focus (repeat' first | exact less_nil | refine less_cons (by simp) ?_)
 ·simp
 rintro i g ⟨hi, hi30, hall⟩
 have fin : ∀ {b : Bool}, ¬ (i < t.list.length ∧ i < 30) → b = decide (20 < (t.list.length : Int)) → AV.bool b = .bool (great3 t.list) := fun hc e => by
  have : (t.list.take 30).any (fun x => decide (20 < x.parts.list.length)) = false := by
   by_cases h : i < t.list.length
   ·have : i = 30 := by omega
    subst this; exact hall
   ·rw [List.take_of_length_le (by omega)] at hall ⊢; exact hall
  rw [e]; simp [great3, this]; omega
 repeat' first | refine TW.seq ?_ | refine TW.exit ?_ | refine TW.condF hP rfl ?_ | (refine TW.regG hP (by simp <;> rfl) ?_; dsimp only [goK]) | (refine goK_guard (fun hb => ?_) (fun hb => ?_) <;> (try simp only [Bool.not_eq_eq_eq_not, Bool.not_true, Bool.not_false] at hb) <;> (refine goK_eq (by simp [hb] <;> rfl) ?_; dsimp only [goK])) | simp only [thenQ]
 ·refine TW.cond hP rfl (fun hc => TW.skip ?_) (fun hc => TW.exit ?_)
  ·simp at hb hc
   obtain ⟨x, hx⟩ := get_of_lt hb
   have hav := av_pos (e := LType.cells) (show 0 < t.list.length by omega)
   have hs := any_take_succ (p := fun x => decide (20 < x.parts.list.length)) hx
   dsimp only [thenQ]
   repeat' first | refine TW.seq ?_ | refine TW.block ?_ | refine TW.skip ?_ | (refine TW.regG hP (by simp [hx, hav] <;> rfl) ?_; dsimp only [goK]) | simp only [thenQ, roundL] | (refine TW.cond hP rfl (fun hc => ?_) (fun hc => ?_) <;> simp at hc) | (refine TW.ret ⟨.inr rfl, _, _, rfl, rfl, ?_⟩; dsimp only [tupOf])
   ·simp only [great3]
    rw [any_true_of (i := i) (x := x)] <;> simp [List.getElem?_take, hx] <;> omega
   ·refine ⟨i + 1, by omega, trivial, ?_, by omega, by omega, by rw [hs, hall]; simp; omega⟩
    repeat' first | exact less_nil | refine less_cons (by simp [hav, w64s (show i < 9000000000000000000 by omega)]) ?_
  ·simp at hb hc
   dsimp only [thenQ]
   repeat' first | refine TW.seq ?_ | (refine TW.regG hP (by simp <;> rfl) ?_; dsimp only [goK]) | simp only [thenQ] | (refine TW.ret ⟨.inr rfl, _, _, rfl, rfl, ?_⟩; dsimp only [tupOf])
   exact fin (by omega) rfl
 ·simp at hb
  repeat' first | (refine TW.ret ⟨.inr rfl, _, _, rfl, rfl, ?_⟩; dsimp only [tupOf])
  exact fin (by omega) rfl
def kindAt (t : List LType) (k : Int) : Int := match t[k.toNat]? with | some x => x.kind | none => 0
def plain3 (t : List LType) (k : Int) : Bool := decide (0 ≤ k) && (decide (k < t.length) && (decide (kindAt t k = 1) || (decide (kindAt t k = 2) || decide (kindAt t k = 3))))
def lower3 (l : List Int) (k : Int) : Bool := l.all fun n => decide (0 ≤ n) && decide (n < k)
def mayFn3 (t : List LType) (x : LType) : Bool := x.parts.list.all (plain3 t) && (plain3 t x.elem && (decide ((x.parts.list.length : Int) ≤ 4) && decide (x.many = 0)))
def mayType3 (t : List LType) (k : Nat) : Bool :=
  match t[k]? with
  | none => false
  | some x =>
    if x.kind = 1 then decide (x.elem = 0) && (decide (x.many = 0) && decide (x.parts.list.length = 0))
    else if x.kind = 2 then decide (0 ≤ x.elem) && (decide (x.elem < t.length) && (decide (x.many = 0) && decide (x.parts.list.length = 0)))
    else if x.kind = 3 then mayFn3 t x
    else if x.kind = 4 then decide (x.elem = 0) && (decide (x.many = 0) && (decide ((1 : Int) ≤ x.parts.list.length) && (decide ((x.parts.list.length : Int) ≤ 8) && lower3 x.parts.list k)))
    else if x.kind = 5 then decide (0 ≤ x.elem) && (decide (x.elem < k) && (decide (1 ≤ x.many) && (decide (x.many ≤ 16) && decide (x.parts.list.length = 0))))
    else false
def ofN (t : List LType) : Nat → Nat → List Int
  | 0, _ => []
  | d + 1, k => match t[k]? with
    | none => []
    | some x => if x.kind = 4 then x.parts.list.flatMap (fun p => ofN t d p.toNat) else if x.kind = 5 then (List.replicate x.many.toNat (ofN t d x.elem.toNat)).flatten else [(k : Int)]
theorem ofN_succ {t : List LType} {d k : Nat} {x : LType} (hx : t[k]? = some x) : ofN t (d + 1) k = if x.kind = 4 then x.parts.list.flatMap (fun p => ofN t d p.toNat) else if x.kind = 5 then (List.replicate x.many.toNat (ofN t d x.elem.toNat)).flatten else [(k : Int)] := by
 conv => lhs; unfold ofN
 rw [hx]
def ofS (t : List LType) (k : Nat) : List Int := ofN t (k + 1) k
theorem ofN_eq {t : List LType} : ∀ {d e k : Nat}, (∀ j ≤ k, mayType3 t j = true) → k < d → k < e → ofN t d k = ofN t e k
  | 0, _, _, _, h, _ => absurd h (Nat.not_lt_zero _)
  | _ + 1, 0, _, _, _, h => absurd h (Nat.not_lt_zero _)
  | d + 1, e + 1, k, hm, h1, h2 => by
    unfold ofN
    cases hx : t[k]? with
    | none => rfl
    | some x =>
      have hk := hm k (Nat.le_refl _)
      unfold mayType3 at hk
      rw [hx] at hk
      dsimp only at hk ⊢
      split
      · rename_i h4
        have hl : lower3 x.parts.list k = true := by
          simp [h4] at hk
          exact hk.2.2.2.2
        have e1 : ∀ l : List Int, (∀ p ∈ l, 0 ≤ p ∧ p < k) → l.flatMap (fun p => ofN t d p.toNat) = l.flatMap (fun p => ofN t e p.toNat) := fun l => by
          induction l with
          | nil => intro _; rfl
          | cons a l ih =>
            intro hp
            have ha := hp a List.mem_cons_self
            rw [List.flatMap_cons, List.flatMap_cons, ih fun p hp' => hp p (List.mem_cons_of_mem _ hp'), ofN_eq (fun j hj => hm j (by omega)) (by omega) (show a.toNat < e by omega)]
        exact e1 _ fun p hp => by
          have := List.all_eq_true.1 hl p hp
          simpa using this
      · split
        · rename_i h4 h5
          simp [h5] at hk
          rw [ofN_eq (e := e) (fun j hj => hm j (by omega)) (by omega) (by omega)]
        · rfl
def mayT3 (t : List LType) (k : Nat) : Bool := mayType3 t k && decide ((ofS t k).length ≤ 32)
def check3 (t : List LType) : Int := if 16 < t.length then 4 else if (List.range t.length).all (mayT3 t) = true then 0 else 30
def two6 (op : Int) : Bool := (decide (4 ≤ op) && decide (op ≤ 10)) || (decide (op = 15) || decide (op = 17))
def hasA6 (op : Int) : Bool := two6 op || (decide (op = 13) || (decide (op = 14) || (decide (op = 16) || (decide (op = 19) || decide (op = 21)))))
def hasArgs6 (op : Int) : Bool := decide (op = 18) || (decide (op = 19) || decide (op = 22))
def answers6 (op : Int) : Bool := decide (1 ≤ op) && (decide (op ≤ 22) && (!decide (op = 13) && (!decide (op = 17) && !decide (op = 21))))
def mayN6 (nf : Int) (x : LIns) : Bool :=
 if x.op = 1 then true else if x.op = 3 ∨ x.op = 18 then decide (0 ≤ x.n) && decide (x.n < nf) else if x.op = 14 then decide (0 ≤ x.n) && decide (x.n < 8) else decide (x.n = 0)
def endsS (x : LEnd) : List Int := if x.kind = 2 ∨ x.kind = 3 then [x.a] else []
def slOf (l : List Int) : AV := match l with | [] => .nilsl | l => .isl (l.map cI)
def uses6 (x : LIns) : List Int := (if hasA6 x.op = true then [x.a] else []) ++ ((if two6 x.op = true then [x.b] else []) ++ (if hasArgs6 x.op = true then x.args.list else []))
theorem own_slOf {h : Hp} {b k : Nat} {v : AV} {l : List Int} (ho : Own 1 T_int b h v (l.map cI)) : frzV (k + 2) h v = some (slOf l) := by
  cases l with
  | nil =>
    rcases ho with ⟨rfl, _⟩ | ⟨h1, _⟩
    · rfl
    · exact absurd rfl h1
  | cons a l => exact own_frz_ints ho (by simp)
theorem lenA_ints (x : Sl Int) : lenA (x.av cI) = some (x.list.map cI).length := by rw [lenA_av]; simp
theorem src_ints {h : Hp} (x : Sl Int) : srcCells h 1 (x.list.map cI).length (x.av cI) = some (x.list.map cI).flatten := by
 cases x with
 | nil => rfl
 | mk l => exact src_isl ints_len
def slL (l : List Int) : Sl Int := match l with | [] => .nil | l => .mk l
theorem slL_list (l : List Int) : (slL l).list = l := by cases l <;> rfl
theorem slOf_av (l : List Int) : slOf l = (slL l).av cI := by cases l <;> rfl
def mayInsA (nf : Int) (x : LIns) (regs : Int) : Bool := (decide (x.op < 1) || decide (22 < x.op)) || (!lower3 (uses6 x) regs || !mayN6 nf x)
def mayInsB (x : LIns) : Bool := (!hasA6 x.op && !decide (x.a = 0)) || ((!two6 x.op && !decide (x.b = 0)) || (!hasArgs6 x.op && decide ((0 : Int) < x.args.list.length)))
def mayInsC (nt : Int) (x : LIns) : Bool := (answers6 x.op && (decide (x.type < 0) || decide (nt ≤ x.type))) || (!answers6 x.op && !decide (x.type = 0))
def mayInsD (x : LIns) (many : Int) : Bool := if x.op = 22 then decide ((x.frm.list.length : Int) = x.args.list.length) && (decide ((1 : Int) ≤ x.frm.list.length) && (decide ((x.frm.list.length : Int) ≤ 16) && lower3 x.frm.list many)) else decide ((x.frm.list.length : Int) = 0) && decide ((x.args.list.length : Int) ≤ 4)
def mayIns6 (nt nf : Int) (x : LIns) (regs many : Int) : Bool := !mayInsA nf x regs && (!mayInsB x && (!mayInsC nt x && mayInsD x many))
def mayEnd6 (x : LEnd) (regs many : Int) : Bool :=
 if x.kind = 1 then decide (x.a = 0) && (decide (x.els = 0) && lower3 [x.to] many)
 else if x.kind = 2 then lower3 [x.a] regs && lower3 [x.to, x.els] many
 else if x.kind = 3 then decide (x.to = 0) && (decide (x.els = 0) && lower3 [x.a] regs)
 else false
def many6 : List LBlock → Int
 | [] => 0
 | b :: l => b.ins.list.length + many6 l
theorem many6_app (l k : List LBlock) : many6 (l ++ k) = many6 l + many6 k := by
 induction l with
 | nil => simp [many6]
 | cons a l ih => simp [many6, ih]; omega
theorem many6_take {l : List LBlock} {i : Nat} {x : LBlock} (hx : l[i]? = some x) : many6 (l.take (i + 1)) = many6 (l.take i) + x.ins.list.length := by
 obtain ⟨h, rfl⟩ := List.getElem?_eq_some_iff.1 hx
 rw [List.take_succ_eq_append_getElem h, many6_app]
 simp [many6]
theorem many6_nonneg : ∀ l : List LBlock, 0 ≤ many6 l
 | [] => by simp [many6]
 | a :: l => by have := many6_nonneg l; simp only [many6]; omega
theorem many6_le (l : List LBlock) (i : Nat) : many6 (l.take i) ≤ many6 l := by
 have h := many6_app (l.take i) (l.drop i)
 rw [List.take_append_drop] at h
 have := many6_nonneg (l.drop i)
 omega
def sigParts (p : LProg) (f : LFunc) : Int := match p.types.list[f.sig.toNat]? with | some x => x.parts.list.length | none => 0
structure SmallF (f : LFunc) : Prop where
 nb : f.blocks.list.length < 900000
 many : many6 f.blocks.list < 900000
 args : ∀ b ∈ f.blocks.list, ∀ x ∈ b.ins.list, x.args.list.length < 900000
 frm : ∀ b ∈ f.blocks.list, ∀ x ∈ b.ins.list, x.frm.list.length < 900000
def sigKind (p : LProg) (f : LFunc) : Int := match p.types.list[f.sig.toNat]? with | some x => x.kind | none => 0
def mayFuncA (p : LProg) (f : LFunc) : Bool :=
 decide (f.sig < 0) || (decide ((p.types.list.length : Int) ≤ f.sig) || (!decide (sigKind p f = 3) || (decide ((f.blocks.list.length : Int) < 1) || (decide ((16 : Int) < f.blocks.list.length) || decide (128 < many6 f.blocks.list)))))
def regs6 (p : LProg) (f : LFunc) : Int := sigParts p f + many6 f.blocks.list
def mayBlock6 (p : LProg) (f : LFunc) (b : LBlock) : Bool := b.ins.list.all (fun x => mayIns6 p.types.list.length p.funcs.list.length x (regs6 p f) f.blocks.list.length) && mayEnd6 b.ed (regs6 p f) f.blocks.list.length
def mayFunc6 (p : LProg) (f : LFunc) : Bool := !mayFuncA p f && f.blocks.list.all (mayBlock6 p f)
structure SmallP (p : LProg) : Prop where
 nt : p.types.list.length < 900000
 parts : ∀ x ∈ p.types.list, x.parts.list.length < 900000
 nf : p.funcs.list.length < 900000
 funcs : ∀ f ∈ p.funcs.list, SmallF f
def check6 (p : LProg) : Int := if check3 p.types.list = 0 then (if p.funcs.list.all (mayFunc6 p) = true then (if (p.funcs.list.length : Int) < 1 ∨ (8 : Int) < p.funcs.list.length then 60 else 0) else 60) else check3 p.types.list
def asked6 (p : LProg) (f : Int) : Int := if check6 p = 0 ∧ (f < 0 ∨ (p.funcs.list.length : Int) ≤ f) then 2 else check6 p
theorem mayFunc6_sig {p : LProg} {f : LFunc} (h : mayFunc6 p f = true) : 0 ≤ f.sig ∧ f.sig < p.types.list.length ∧ sigKind p f = 3 ∧ 1 ≤ f.blocks.list.length ∧ f.blocks.list.length ≤ 16 ∧ many6 f.blocks.list ≤ 128 := by
 simp only [mayFunc6, Bool.and_eq_true, Bool.not_eq_true', mayFuncA, Bool.or_eq_false_iff, decide_eq_false_iff_not, Bool.not_eq_false', decide_eq_true_eq] at h
 obtain ⟨⟨a1, a2, a3, a4, a5, a6⟩, _⟩ := h
 exact ⟨by omega, by omega, a3, by omega, by omega, by omega⟩
theorem check6_funcs {p : LProg} (h : check6 p = 0) : check3 p.types.list = 0 ∧ (∀ f ∈ p.funcs.list, mayFunc6 p f = true) ∧ 1 ≤ p.funcs.list.length ∧ p.funcs.list.length ≤ 8 := by
 unfold check6 at h
 split at h
 ·rename_i h1
  split at h
  ·rename_i h2
   split at h
   ·cases h
   ·exact ⟨h1, List.all_eq_true.1 h2, by omega, by omega⟩
  ·cases h
 ·rename_i h1; exact absurd h h1
theorem asked6_ok {p : LProg} {f : Int} (h : asked6 p f = 0) : check6 p = 0 ∧ 0 ≤ f ∧ f < p.funcs.list.length := by
 unfold asked6 at h
 split at h
 ·cases h
 ·rename_i h1; exact ⟨h, by omega, by omega⟩
def sameL (a b : List Int) : Bool := decide (a = b)
theorem take_succ_eq {α : Type} {a b : List α} {i : Nat} {x y : α} (hx : a[i]? = some x) (hy : b[i]? = some y) (he : a.take i = b.take i) (h : x = y) : a.take (i + 1) = b.take (i + 1) := by
 obtain ⟨h1, rfl⟩ := List.getElem?_eq_some_iff.1 hx
 obtain ⟨h2, rfl⟩ := List.getElem?_eq_some_iff.1 hy
 rw [List.take_succ_eq_append_getElem h1, List.take_succ_eq_append_getElem h2, he, h]
def sameIn (x y : LIns) : Bool := decide (x.op = y.op) && (decide (x.type = y.type) && (decide (x.a = y.a) && (decide (x.b = y.b) && (decide (x.n = y.n) && (sameL x.args.list y.args.list && sameL x.frm.list y.frm.list)))))
def sameB {α : Type} (p : α → α → Bool) : List α → List α → Bool
 | [], [] => true
 | x :: l, y :: k => p x y && sameB p l k
 | _, _ => false
theorem sameB_of {α : Type} {p : α → α → Bool} : ∀ {l k : List α}, l.length = k.length → ((∀ (i : Nat) (x y : α), l[i]? = some x → k[i]? = some y → p x y = true) ↔ sameB p l k = true)
  | [], [], _ => by simp [sameB]
  | x :: l, y :: k, h => by
    simp only [sameB, Bool.and_eq_true]
    rw [← sameB_of (l := l) (k := k) (by simpa using h)]
    constructor
    · intro hh; exact ⟨hh 0 x y rfl rfl, fun i a b ha hb => hh (i + 1) a b ha hb⟩
    · rintro ⟨h1, h2⟩ i a b ha hb
      cases i with
      | zero => simp at ha hb; subst ha hb; exact h1
      | succ i => exact h2 i a b ha hb
  | [], _ :: _, h => by simp at h
  | _ :: _, [], h => by simp at h
theorem sameB_len {α : Type} {p : α → α → Bool} : ∀ {l k : List α}, l.length ≠ k.length → sameB p l k = false
 | [], [], h => absurd rfl h
 | x :: l, y :: k, h => by simp only [sameB]; rw [sameB_len (l := l) (k := k) (by simpa using h), Bool.and_false]
 | [], _ :: _, _ => rfl
 | _ :: _, [], _ => rfl
def sameEnd (x y : LEnd) : Bool := decide (x.kind = y.kind) && (decide (x.a = y.a) && (decide (x.to = y.to) && decide (x.els = y.els)))
def sameBlock (x y : LBlock) : Bool := sameEnd x.ed y.ed && sameB sameIn x.ins.list y.ins.list
def sameType (x y : LType) : Bool := decide (x.kind = y.kind) && (decide (x.elem = y.elem) && (decide (x.many = y.many) && sameL x.parts.list y.parts.list))
theorem bad_of {α : Type} {p : α → α → Bool} {a b : List α} (hl : a.length = b.length) {i : Nat} {x y : α} (hx : a[i]? = some x) (hy : b[i]? = some y) (h : p x y = false) : AV.bool false = .bool (sameB p a b) := by
 cases hs : sameB p a b with
 | false => rfl
 | true => have := (sameB_of hl).2 hs i x y hx hy; rw [h] at this; cases this
theorem all_next {α : Type} {p : α → α → Bool} {a b : List α} {i : Nat} {x y : α} (hx : a[i]? = some x) (hy : b[i]? = some y) (hall : ∀ (j : Nat) (x y : α), j < i → a[j]? = some x → b[j]? = some y → p x y = true) (h : p x y = true) :
  ∀ (j : Nat) (x y : α), j < i + 1 → a[j]? = some x → b[j]? = some y → p x y = true := fun j u v hj hu hv => by
 by_cases e : j = i
 ·subst e; rw [hx] at hu; rw [hy] at hv; cases hu; cases hv; exact h
 ·exact hall j u v (by omega) hu hv
def sameFn (x y : LFunc) : Bool := decide (x.sig = y.sig) && sameB sameBlock x.blocks.list y.blocks.list
def sameP (p q : LProg) : Bool := sameB sameType p.types.list q.types.list && sameB sameFn p.funcs.list q.funcs.list
theorem many6_mem {x : LBlock} : ∀ {l : List LBlock}, x ∈ l → (x.ins.list.length : Int) ≤ many6 l
  | [], h => by cases h
  | a :: l, h => by
    have h1 := many6_nonneg l
    rcases List.mem_cons.1 h with rfl | h
    · simp only [many6]; omega
    · have := many6_mem h; simp only [many6]; omega
theorem SmallF.blk {f : LFunc} (h : SmallF f) : f.blocks.list.length < 1000000 ∧ ∀ x ∈ f.blocks.list, x.ins.list.length < 1000000 ∧ ∀ y ∈ x.ins.list, y.args.list.length < 1000000 ∧ y.frm.list.length < 1000000 := by
 refine ⟨by have := h.nb; omega, fun x hx => ⟨?_, fun y hy => ?_⟩⟩
 ·have h1 := h.many
  have := many6_mem hx
  omega
 ·have h1 := h.args x hx y hy
  have h2 := h.frm x hx y hy
  omega
end Go.Ax
noncomputable section
namespace Go.Ax
variable {C : Ctx} {h g : Hp}
def Agr (S : Nat → Prop) (h g : Hp) : Prop := ∀ r, S r → g.get r = h.get r
theorem Agr.refl {S : Nat → Prop} : Agr S h h := fun _ _ => rfl
def RdF (S : Nat → Prop) (h : Hp) (k : Nat) (v u : AV) : Prop := ∀ g, Agr S h g → frzV k g v = some u
def RdL (S : Nat → Prop) (h : Hp) (k : Nat) (l m : List AV) : Prop := ∀ g, Agr S h g → mapO (frzV k g) l = some m
variable {S S' : Nat → Prop} {k : Nat}
theorem RdF.mono {v u : AV} (H : RdF S h k v u) (hS : ∀ r, S r → S' r) (hg : Agr S h g) : RdF S' g k v u := fun g' hg' => H g' fun r hr => (hg' r (hS r hr)).trans (hg r hr)
theorem RdL.nil : RdL S h k [] [] := fun _ _ => rfl
theorem RdL.cons {v u : AV} {l m : List AV} (H : RdF S h k v u) (J : RdL S h k l m) : RdL S h k (v :: l) (u :: m) := fun g hg => by
 simp only [mapO, H g hg, J g hg]
theorem z_up {h : Hp} : h.z.up = h.up := by unfold Hp.up; rfl
theorem up_z {h : Hp} : h.up.z = h.z := by unfold Hp.up; rfl
theorem z_z {h : Hp} : h.z.z = h.z := rfl
theorem new_z {h : Hp} {o : AObj} : (h.up.new o).z = (h.new o).z := by unfold Hp.up; rfl
theorem put_z {h : Hp} {r : Nat} {o : AObj} : (h.up.put r o).z = (h.put r o).z := by unfold Hp.up; rfl
attribute [simp] z_up up_z z_z new_z put_z
end Go.Ax
set_option maxRecDepth 20000
noncomputable section
namespace Go.Ax
open Go.Proofs
attribute [local irreducible] TW TO CallsT PureC
variable {F : Nat → Option Obj} {gl : Nat → AV} {K : Knob}
def Sl.of {α : Type} : List α → Sl α
 | [] => .nil
 | l => .mk l
theorem slt_types : slT (Ctx.of Tryz.prog gl K) T_types T_type 4 = true := by simp [slT]
theorem rdF_int {S : Nat → Prop} {h : Hp} {k : Nat} {q : IntKind} {n : Int} : RdF S h (k + 1) (.int q n) (.int q n) := fun _ _ => rfl
theorem slt_inss : slT (Ctx.of Tryz.prog gl K) T_inss T_ins 7 = true := by simp [slT]
theorem slt_blocks : slT (Ctx.of Tryz.prog gl K) T_blocks T_block 5 = true := by simp [slT]
theorem slt_funcs : slT (Ctx.of Tryz.prog gl K) T_funcs T_func 2 = true := by simp [slT]
theorem frz_av {α : Type} {e : α → List AV} (he : ∀ x, noRefs (e x) = true) (x : Sl α) {k : Nat} {h : Hp} : frzV (k + 1) h (x.av e) = some (x.av e) := by
  have := noRef_av he x
  cases x with
  | nil => rfl
  | mk l =>
    have h1 : noRefss (l.map e) = true := this
    unfold frzV
    simp only [Sl.av, h1, cond_true]
end Go.Ax
noncomputable section
namespace Go.Ax
variable {C : Ctx} {h g : Hp} {S S' : Nat → Prop} {es i o : Nat} {rows : List (List AV)} {row : List AV}
def RowsAt (es : Nat) (rows : List (List AV)) : Prop := ∀ c ∈ rows, c.length = es
theorem flat_split (hr : RowsAt es rows) (hi : rows[i]? = some row) : rows.flatten = (rows.take i).flatten ++ (row ++ (rows.drop (i + 1)).flatten) ∧ (rows.take i).flatten.length = i * es ∧ row.length = es := by
 obtain ⟨h1, h2⟩ := List.getElem?_eq_some_iff.1 hi
 refine ⟨?_, ?_, hr row (List.mem_of_getElem? hi)⟩
 ·conv => lhs; rw [← List.take_append_drop i rows]
  rw [List.flatten_append, List.drop_eq_getElem_cons h1, List.flatten_cons, h2]
 ·rw [flat_len fun x hx => hr x (List.mem_of_mem_take hx), List.length_take, Nat.min_eq_left (by omega)]
theorem flat_sub (hr : RowsAt es rows) (hi : rows[i]? = some row) {k : Nat} (hk : o + k ≤ es) : sub rows.flatten (i * es + o) k = some ((row.drop o).take k) := by
 obtain ⟨h1, h2, h3⟩ := flat_split hr hi
 unfold sub
 have hl : i * es + o + k ≤ rows.flatten.length := by rw [h1, List.length_append, List.length_append, h2, h3]; omega
 have e : Nat.ble (Nat.add (i * es + o) k) rows.flatten.length = true := Nat.ble_eq_true_of_le hl
 rw [e, cond_true, h1, List.drop_append, List.drop_of_length_le (by omega), h2, Nat.add_sub_cancel_left, List.nil_append, List.drop_append_of_le_length (by omega), List.take_append_of_le_length (by simp; omega)]
theorem flat_at (hr : RowsAt es rows) (hi : rows[i]? = some row) (hk : o < es) : rows.flatten[i * es + o]? = row[o]? := by
 obtain ⟨h1, h2, h3⟩ := flat_split hr hi
 rw [h1, List.getElem?_append_right (by omega), h2, Nat.add_sub_cancel_left, List.getElem?_append_left (by omega)]
theorem flat_put (hr : RowsAt es rows) (hi : rows[i]? = some row) {vs : List AV} (hk : o + vs.length ≤ es) : putCells rows.flatten (i * es + o) vs = (rows.set i (putCells row o vs)).flatten := by
 obtain ⟨h1, h2, h3⟩ := flat_split hr hi
 obtain ⟨h4, h5⟩ := List.getElem?_eq_some_iff.1 hi
 have e1 : (rows.set i (putCells row o vs)).flatten = (rows.take i).flatten ++ (putCells row o vs ++ (rows.drop (i + 1)).flatten) := by
  rw [List.set_eq_take_append_cons_drop, if_pos h4, List.flatten_append, List.flatten_cons]
 rw [e1]
 unfold putCells
 show rows.flatten.take (i * es + o) ++ (vs ++ rows.flatten.drop (i * es + o + vs.length)) = _
 have e2 : rows.flatten.take (i * es + o) = (rows.take i).flatten ++ row.take o := by
  rw [h1, List.take_append, List.take_of_length_le (by omega), h2, Nat.add_sub_cancel_left, List.take_append_of_le_length (by omega)]
 have e3 : rows.flatten.drop (i * es + o + vs.length) = row.drop (o + vs.length) ++ (rows.drop (i + 1)).flatten := by
  rw [h1, List.drop_append, List.drop_of_length_le (by omega), h2, List.nil_append, show i * es + o + vs.length - i * es = o + vs.length by omega, List.drop_append_of_le_length (by omega)]
 rw [e2, e3]
 simp [List.append_assoc]
theorem rows_set (hr : RowsAt es rows) {r : List AV} (h1 : r.length = es) : RowsAt es (rows.set i r) := fun c hc => by
 rcases List.mem_or_eq_of_mem_set hc with h2 | rfl
 ·exact hr c h2
 ·exact h1
def loadRow (C : Ctx) (t : TypeId) (row : List AV) (o : Nat) : Option AV := match C.ti t with | some ti => partOf ti row o | none => none
def sizeOk (C : Ctx) (t : TypeId) (es o : Nat) : Bool := match C.ti t with | some ti => Nat.ble (o + (bif ti.isAgg then ti.size else 1)) es | none => true
theorem load_arr {t e : TypeId} {r : Nat} (hg : h.get r = some (.cells e rows.flatten)) (hr : RowsAt es rows) (hi : rows[i]? = some row) (hok : sizeOk C t es o = true) : loadAt C t (.ptr r (i * es + o)) h = loadRow C t row o := by
  unfold loadAt loadRow
  unfold sizeOk at hok
  cases hti : C.ti t with
  | none => rfl
  | some ti =>
    rw [hti] at hok
    dsimp only at hok ⊢
    rw [hg]
    dsimp only
    unfold partOf
    have hok := Nat.le_of_ble_eq_true hok
    cases ha : ti.isAgg with
    | true =>
      rw [ha, cond_true] at hok
      obtain ⟨h1, h2, h3⟩ := flat_split hr hi
      dsimp only
      rw [flat_sub hr hi hok]
      have : sub row o ti.size = some ((row.drop o).take ti.size) := by
        unfold sub
        rw [show Nat.ble (Nat.add o ti.size) row.length = true from Nat.ble_eq_true_of_le (by rw [h3]; exact hok)]
        rfl
      rw [this]
    | false =>
      rw [ha, cond_false] at hok
      exact flat_at hr hi (by omega)
theorem load_arr0 {t e : TypeId} {r : Nat} (hg : h.get r = some (.cells e rows.flatten)) (hr : RowsAt es rows) (hi : rows[i]? = some row) (hok : sizeOk C t es 0 = true) : loadAt C t (.ptr r (i * es)) h = loadRow C t row 0 := load_arr (o := 0) hg hr hi hok
theorem store_arr {t e : TypeId} {r : Nat} {v : AV} {vs : List AV} (hg : h.get r = some (.cells e rows.flatten)) (hr : RowsAt es rows) (hi : rows[i]? = some row) (hv : cellsOf v = some vs) (hc : vs.all isCell = true) (hs : (match C.ti t with | some ti => decide (vs.length = ti.size) | none => false) = true) (hk : o + vs.length ≤ es) :
    storeAt C t (.ptr r (i * es + o)) v h = some (h.put r (.cells e (rows.set i (putCells row o vs)).flatten)) := by
  unfold storeAt
  cases hti : C.ti t with
  | none => rw [hti] at hs; cases hs
  | some ti =>
    rw [hti] at hs
    have hs := of_decide_eq_true hs
    rw [hv]
    dsimp only
    rw [hg]
    dsimp only
    obtain ⟨h1, h2, h3⟩ := flat_split hr hi
    have hl : i * es + o + vs.length ≤ rows.flatten.length := by rw [h1, List.length_append, List.length_append, h2, h3]; omega
    rw [show Nat.beq vs.length ti.size = true by rw [hs]; exact Nat.beq_refl _, show Nat.ble (Nat.add (i * es + o) vs.length) rows.flatten.length = true from Nat.ble_eq_true_of_le hl, hc, flat_put hr hi hk]
    rfl
def sz1 (C : Ctx) (t : TypeId) : Bool := match C.ti t with | some ti => decide (ti.size = 1) | none => false
theorem store1 {e : TypeId} {r : Nat} {v : AV} (hg : h.get r = some (.cells e rows.flatten)) (hr : RowsAt es rows) (hi : rows[i]? = some row) (hv : cellsOf v = some [v]) (hc : isCell v = true) (ho : o < es) (t : TypeId) (ht : sz1 C t = true) :
    storeAt C t (.ptr r (i * es + o)) v h = some (h.put r (.cells e (rows.set i (row.set o v)).flatten)) := by
  have hl := hr row (List.mem_of_getElem? hi)
  rw [store_arr hg hr hi hv (by simp [hc]) (by
    unfold sz1 at ht
    cases hti : C.ti t with
    | none => rw [hti] at ht; cases ht
    | some ti => rw [hti] at ht; have := of_decide_eq_true ht; simp [this]) (by simp; omega)]
  have : putCells row o [v] = row.set o v := by
    rw [List.set_eq_take_append_cons_drop, if_pos (by omega)]
    rfl
  rw [this]
theorem store10 {e : TypeId} {r : Nat} {v : AV} (hg : h.get r = some (.cells e rows.flatten)) (hr : RowsAt es rows) (hi : rows[i]? = some row) (hv : cellsOf v = some [v]) (hc : isCell v = true) (ho : 0 < es) (t : TypeId) (ht : sz1 C t = true) :
  storeAt C t (.ptr r (i * es)) v h = some (h.put r (.cells e (rows.set i (row.set 0 v)).flatten)) := store1 (o := 0) hg hr hi hv hc ho t ht
theorem set_self' {α : Type} {l : List α} {i : Nat} {x : α} (h : l[i]? = some x) : l.set i x = l := by
 obtain ⟨h1, rfl⟩ := List.getElem?_eq_some_iff.1 h
 exact List.set_getElem_self h1
theorem get_set' {α : Type} {l : List α} {i : Nat} {x y : α} (h : l[i]? = some x) : (l.set i y)[i]? = some y := by
 obtain ⟨h1, rfl⟩ := List.getElem?_eq_some_iff.1 h
 exact List.getElem?_set_self h1
abbrev Asr := Hp → (Nat → Prop) → Prop
def Locl (P : Asr) : Prop := ∀ h g S S', P h S → (∀ r, S r → S' r) → Agr S h g → P g S'
end Go.Ax
set_option maxRecDepth 20000
noncomputable section
namespace Go.Ax
open Go.Proofs
variable {C : Ctx} {h g : Hp} {S S' : Nat → Prop} {es i o : Nat} {rows : List (List AV)} {row : List AV} {X : Type}
def ArrS (ρ : X → List AV → Asr) (es : Nat) (eT : TypeId) (x : Bool) (v : AV) (xs : Sl X) (h : Hp) (S : Nat → Prop) : Prop :=
 match xs with
 | .nil => v = .nilsl
 | .mk l => ∃ (r : Nat) (rows : List (List AV)) (Ss : Nat → Nat → Prop), v = .sl r 0 l.length l.length es x ∧ S r ∧ h.get r = some (.cells eT rows.flatten) ∧ rows.length = l.length ∧ RowsAt es rows ∧
   (∀ i s, Ss i s → S s ∧ s ≠ r) ∧ (∀ i j s, Ss i s → Ss j s → i = j) ∧ ∀ i a row, l[i]? = some a → rows[i]? = some row → ρ a row h (Ss i)
theorem ArrS.locl {ρ : X → List AV → Asr} {eT : TypeId} {x : Bool} {v : AV} {xs : Sl X} (hρ : ∀ a row, Locl (ρ a row)) : Locl (ArrS ρ es eT x v xs) := fun h g S S' H hS hg => by
  cases xs with
  | nil => exact H
  | mk l =>
    obtain ⟨r, rows, Ss, h1, h2, h3, h4, h5, h6, h7, h8⟩ := H
    exact ⟨r, rows, Ss, h1, hS r h2, (hg r h2).trans h3, h4, h5, fun i s hs => ⟨hS s (h6 i s hs).1, (h6 i s hs).2⟩, h7, fun i a row ha hr => hρ a row _ _ _ _ (h8 i a row ha hr) (fun _ h => h) fun s hs => hg s (h6 i s hs).1⟩
theorem ArrS.len {ρ : X → List AV → Asr} {eT : TypeId} {x : Bool} {v : AV} {xs : Sl X} (H : ArrS ρ es eT x v xs h S) : lenA v = some xs.list.length ∧ (∀ s, v ≠ .str s) ∧ isCell v = true ∧ cellsOf v = some [v] := by
 cases xs with
 | nil => cases H; exact ⟨rfl, nofun, rfl, rfl⟩
 | mk l => obtain ⟨r, rows, Ss, rfl, _⟩ := H; exact ⟨rfl, nofun, rfl, rfl⟩
theorem ArrS.at {ρ : X → List AV → Asr} {eT : TypeId} {x : Bool} {v : AV} {xs : Sl X} {a : X} (hρ : ∀ a row, Locl (ρ a row)) (H : ArrS ρ es eT x v xs h S) (ha : xs.list[i]? = some a) :
    ∃ (r : Nat) (rows : List (List AV)) (row : List AV) (Si : Nat → Prop), v = .sl r 0 xs.list.length xs.list.length es x ∧ S r ∧ h.get r = some (.cells eT rows.flatten) ∧ RowsAt es rows ∧ rows[i]? = some row ∧ row.length = es ∧ (∀ s, Si s → S s ∧ s ≠ r) ∧ ρ a row h Si ∧
      ∀ (g : Hp) (T : Nat → Prop) (a' : X) (row' : List AV), row'.length = es → g.get r = some (.cells eT (rows.set i row').flatten) → (∀ s, S s → ¬ Si s → s ≠ r → g.get s = h.get s) → (∀ s, T s → Si s ∨ ¬ S s) → ρ a' row' g T → ∀ S', (∀ s, S s → S' s) → (∀ s, T s → S' s) → ArrS ρ es eT x v (.mk (xs.list.set i a')) g S' := by
  cases xs with
  | nil => simp [Sl.list] at ha
  | mk l =>
    obtain ⟨r, rows, Ss, rfl, h2, h3, h4, h5, h6, h7, h8⟩ := H
    have hil : i < l.length := (List.getElem?_eq_some_iff.1 ha).1
    obtain ⟨row, hrow⟩ := get_of_lt (l := rows) (i := i) (by omega)
    refine ⟨r, rows, row, Ss i, rfl, h2, h3, h5, hrow, h5 row (List.mem_of_getElem? hrow), h6 i, h8 i a row ha hrow, fun g T a' row' q1 q2 q3 q4 q5 S' q6 q7 => ?_⟩
    refine ⟨r, rows.set i row', fun j s => if j = i then T s else Ss j s, by simp [Sl.list], q6 r h2, q2, by simp [Sl.list, h4], rows_set h5 q1, fun j s hs => ?_, fun j k s hj hk => ?_, fun j b row2 hb hr2 => ?_⟩
    · dsimp only at hs
      split at hs
      · refine ⟨q7 s hs, fun e => ?_⟩
        subst e
        rcases q4 s hs with h | h
        · exact (h6 i s h).2 rfl
        · exact h h2
      · exact ⟨q6 s (h6 j s hs).1, (h6 j s hs).2⟩
    · dsimp only at hj hk
      split at hj <;> split at hk
      · omega
      · rcases q4 s hj with h | h
        · have := h7 _ _ _ h hk; omega
        · exact absurd (h6 k s hk).1 h
      · rcases q4 s hk with h | h
        · have := h7 _ _ _ h hj; omega
        · exact absurd (h6 j s hj).1 h
      · exact h7 _ _ _ hj hk
    · by_cases e : j = i
      · subst e
        simp [Sl.list, hil] at hb
        rw [List.getElem?_set_self (by omega)] at hr2
        cases hb; cases hr2
        simpa using q5
      · simp [Sl.list, Ne.symm e] at hb
        rw [List.getElem?_set_ne (Ne.symm e)] at hr2
        have hq : (fun s => if j = i then T s else Ss j s) = Ss j := funext fun s => by simp [e]
        dsimp only
        rw [hq]
        refine hρ b row2 _ _ _ _ (h8 j b row2 hb hr2) (fun _ h => h) fun s hs => q3 s (h6 j s hs).1 (fun h => ?_) (h6 j s hs).2
        have := h7 _ _ _ h hs; omega
theorem ArrS.rd {ρ : X → List AV → Asr} {eT : TypeId} {x : Bool} {v : AV} {xs : Sl X} {k : Nat} {enc : X → List AV} (hρ : ∀ a row h S, ρ a row h S → RdL S h k row (enc a)) (H : ArrS ρ es eT x v xs h S) : RdF S h (k + 1) v (xs.av enc) := by
  cases xs with
  | nil => cases H; exact fun g hg => rfl
  | mk l =>
    obtain ⟨r, rows, Ss, rfl, h2, h3, h4, h5, h6, h7, h8⟩ := H
    intro g hg
    have hfl := flat_len h5
    have all : ∀ (rows : List (List AV)) (l : List X), rows.length = l.length → (∀ (i : Nat) (a : X) (row : List AV), l[i]? = some a → rows[i]? = some row → mapO (frzV k g) row = some (enc a)) → mapO (mapO (frzV k g)) rows = some (l.map enc) := by
      intro rows
      induction rows with
      | nil => intro l hl _; obtain rfl := List.eq_nil_of_length_eq_zero hl.symm; rfl
      | cons c rs ih =>
        intro l hl hh
        cases l with
        | nil => simp at hl
        | cons a l =>
          simp only [mapO, List.map_cons, hh 0 a c rfl rfl, ih l (by simpa using hl) fun i b row hb hr => hh (i + 1) b row hb hr]
    have hch : ∀ (rows : List (List AV)), RowsAt es rows → chunks es rows.length rows.flatten = rows := by
      intro rows
      induction rows with
      | nil => intro _; rfl
      | cons c l ih =>
        intro hc
        have h1 := hc c List.mem_cons_self
        show ((c ++ l.flatten).take es) :: chunks es l.length ((c ++ l.flatten).drop es) = _
        rw [List.take_left' h1, List.drop_left' h1, ih fun x hx => hc x (List.mem_cons_of_mem _ hx)]
    have h9 := all rows l h4 fun i a row ha hr => hρ a row h (Ss i) (h8 i a row ha hr) g fun s hs => hg s (h6 i s hs).1
    unfold frzV
    dsimp only
    rw [hg r h2, h3]
    dsimp only
    rw [show Nat.ble (Nat.add 0 (Nat.mul l.length es)) rows.flatten.length = true from Nat.ble_eq_true_of_le (by rw [hfl, h4]; simp), List.drop_zero, ← h4, hch rows h5, h9]
    rfl
end Go.Ax
set_option maxRecDepth 20000
noncomputable section
namespace Go.Ax
open Go.Proofs
attribute [local irreducible] TW TO CallsT PureC
variable {F : Nat → Option Obj} {gl : Nat → AV} {K : Knob} {S S' : Nat → Prop}
theorem agr_wid {h g : Hp} (hw : Wid h g) (hS : ∀ r, S r → r < h.nx) : Agr S h g := fun r hr => hw.get r (hS r hr)
end Go.Ax
set_option maxRecDepth 20000
noncomputable section
namespace Go.Ax
open Go.Proofs
section
variable {P : Program} {F : Nat → Option Obj} {gl : Nat → AV} {K : Knob} {n : Nat} {rd : Option Nat} {l : Kn} {h : Hp} {ds : List ADef} {Q : PQ} {all rest : List Oper}
theorem TO.ccall (hP : POk P F gl K) {g : FuncId} {x : Operand} {aas : Array Operand} {ts : Array TypeId} {d : Nat} {ty : TypeId} {pos : String} {aft : Array Edge} {gd : Option (Nat × Bool)} {first cap vs args : List AV} {O : AV → Hp → Prop}
  (hf : IsFn P g) (hc : CallsT P F h O g args) (hw : wantK all l ⟨some d, .call { callee := .value x, args := aas, argTypes := ts }, ty, pos, aft, gd⟩ = some true) (hb : Nat.blt d n = true)
  (hx : evK (Ctx.of P gl K) l x = some (.fn (.func g) first cap)) (ha : evsK (Ctx.of P gl K) l aas.toList = some vs) (he : first ++ vs ++ cap = args)
  (k : ∀ v h', O v h' → TO P F all rest n rd ((d, v) :: l) h' ds Q) : TO P F all (⟨some d, .call { callee := .value x, args := aas, argTypes := ts }, ty, pos, aft, gd⟩ :: rest) n rd l h ds Q := by
 subst he
 exact .ucall hP hw hb hx ha hf hc k
end
attribute [local irreducible] TW TO CallsT PureC
variable {F : Nat → Option Obj} {gl : Nat → AV} {K : Knob} {S S' : Nat → Prop}
structure RegsIn (n : Nat) (b : LBlock) : Prop where
 ra : ∀ x ∈ b.ins.list, hasA6 x.op = true → 0 ≤ x.a ∧ x.a < n
 rb : ∀ x ∈ b.ins.list, two6 x.op = true → 0 ≤ x.b ∧ x.b < n
 rg : ∀ x ∈ b.ins.list, ∀ r ∈ x.args.list, 0 ≤ r ∧ r < n
 re : b.ed.kind = 2 ∨ b.ed.kind = 3 → 0 ≤ b.ed.a ∧ b.ed.a < n
theorem uses_op (op : Int) : uses6 ⟨op, 0, 0, 0, 0, .nil, .nil⟩ = (if hasA6 op = true then [0] else []) ++ (if two6 op = true then [0] else []) := by
 unfold uses6
 simp [Sl.list]
theorem two_hasA {op : Int} (h : two6 op = true) : hasA6 op = true := by unfold hasA6; rw [h]; rfl
theorem lenA_slOf (l : List Int) : lenA (slOf l) = some l.length := by cases l <;> simp [slOf, lenA]
theorem str_slOf (l : List Int) (s : List Nat) : slOf l ≠ .str s := by cases l <;> simp [slOf]
def RowIs (eT : TypeId) (m : Hp) (q : Nat) (rows : List (List AV)) (j : Nat) (row : List AV) (m1 : Hp) : Prop := m1.nx = m.nx ∧ m1.get q = some (.cells eT (rows.set j row).flatten) ∧ ∀ s, s ≠ q → m1.get s = m.get s
theorem RowIs.put {eT : TypeId} {m m1 : Hp} {q j : Nat} {rows : List (List AV)} {row row' : List AV} (H : RowIs eT m q rows j row m1) : RowIs eT m q rows j row' (m1.put q (.cells eT ((rows.set j row).set j row').flatten)) :=
 ⟨H.1, by rw [get_put, if_pos rfl, List.set_set], fun s hs => by rw [get_put, if_neg (Ne.symm hs)]; exact H.2.2 s hs⟩
theorem RowIs.self {eT : TypeId} {m : Hp} {q j : Nat} {rows : List (List AV)} {row : List AV} (hg : m.get q = some (.cells eT rows.flatten)) (hr : rows[j]? = some row) : RowIs eT m q rows j row m := ⟨rfl, by rw [set_self' hr]; exact hg, fun _ _ => rfl⟩
end Go.Ax
noncomputable section
namespace Go.Ax
variable {P : Program} {F : Nat → Option Obj} {n : Nat} {rd : Option Nat} {l l' : Kn} {h : Hp} {ds : List ADef} {Q : PQ}
def Tr.filt {α : Type} : Tr α → (Nat → Bool) → Tr α
 | .e, _ => .e
 | .n l v r, p => .n (l.filt fun i => p (2 * i + 1)) (bif p 0 then v else none) (r.filt fun i => p (2 * i + 2))
theorem Tr.filt_get {α : Type} : ∀ (t : Tr α) (p : Nat → Bool) (i : Nat), (t.filt p).get i = bif p i then t.get i else none
  | .e, p, i => by
    show (Tr.e : Tr α).get i = _
    rw [Tr.get_e]
    cases p i <;> rfl
  | .n l v r, p, i => by
    unfold Tr.filt
    rw [Tr.get_n, Tr.get_n]
    by_cases h0 : i = 0
    · subst h0; rw [if_pos rfl, if_pos rfl]
    · rw [if_neg h0, if_neg h0]
      split
      · rw [Tr.filt_get l]
        congr 1
        congr 1
        omega
      · rw [Tr.filt_get r]
        congr 1
        congr 1
        omega
def Hp.wo (h : Hp) (S : Nat → Prop) : Hp := { nx := h.nx, m := h.m.filt fun r => !(@decide (S r) (Classical.propDecidable _)), lo := 0 }
def Hp.only (h : Hp) (S : Nat → Prop) : Hp := { nx := h.nx, m := h.m.filt fun r => @decide (S r) (Classical.propDecidable _), lo := 0 }
theorem wo_nx {S : Nat → Prop} : (h.wo S).nx = h.nx := rfl
theorem wo_get {S : Nat → Prop} {r : Nat} (hr : ¬ S r) : (h.wo S).get r = h.get r := by
 show (h.m.filt _).get r = h.m.get r
 rw [Tr.filt_get, @decide_eq_false _ (Classical.propDecidable _) hr]; rfl
theorem wo_none {S : Nat → Prop} {r : Nat} (hr : S r) : (h.wo S).get r = none := by
 show (h.m.filt _).get r = none
 rw [Tr.filt_get, @decide_eq_true _ (Classical.propDecidable _) hr]; rfl
theorem only_get {S : Nat → Prop} {r : Nat} (hr : S r) : (h.only S).get r = h.get r := by
 show (h.m.filt _).get r = h.m.get r
 rw [Tr.filt_get, @decide_eq_true _ (Classical.propDecidable _) hr]; rfl
theorem only_none {S : Nat → Prop} {r : Nat} (hr : ¬ S r) : (h.only S).get r = none := by
 show (h.m.filt _).get r = none
 rw [Tr.filt_get, @decide_eq_false _ (Classical.propDecidable _) hr]; rfl
theorem wo_le (S : Nat → Prop) : HpLe h (h.wo S) := by
 refine ⟨Nat.le_refl _, Nat.zero_le _, fun r _ h2 => absurd h2 (Nat.not_lt_zero _), fun hw r hr => ?_⟩
 by_cases hS : S r
 ·exact wo_none hS
 ·rw [wo_get hS]; exact hw r hr
theorem Step.freeze {m : Loc} {w : World} (S : Nat → Prop) (hR : HRel P F m h w) : ∃ m', Step P F m h (h.wo S) w w m' ∧ ∀ k x v y, VRel P F m x v → frzV k (h.only S) x = some y → VRel P F m' y v := by
  have hsub : ∀ r o, (h.only S).get r = some o → S r ∧ h.get r = some o := fun r o hg => by
    by_cases hS : S r
    · rw [only_get hS] at hg; exact ⟨hS, hg⟩
    · rw [only_none hS] at hg; cases hg
  have hwo : ∀ r o, (h.wo S).get r = some o → ¬ S r ∧ h.get r = some o := fun r o hg => by
    by_cases hS : S r
    · rw [wo_none hS] at hg; cases hg
    · rw [wo_get hS] at hg; exact ⟨hS, hg⟩
  have hRr : HRel P F m (h.only S) w :=
    ⟨fun r o b z hg hm => hR.obj r o b z (hsub r o hg).2 hm, fun r s o q b y z hg hl hg' hl' hm hm' => hR.inj r s o q b y z (hsub r o hg).2 hl (hsub s q hg').2 hl' hm hm',
     fun r o b z hg hl hm => hR.out r o b z (hsub r o hg).2 hl hm, hR.frz, fun r hr => by
      cases hg : (h.only S).get r with
      | none => rfl
      | some o => have h1 := (hsub r o hg).2; rw [hR.wf r hr] at h1; cases h1⟩
  let K : Nat → Prop := fun b => ∃ r o z, (h.only S).get r = some o ∧ o.live = true ∧ m r = some (b, z)
  have dK : ∀ b, Decidable (K b) := fun b => Classical.propDecidable _
  let fz2 : Nat → Option Obj := fun b => @ite _ (K b) (dK b) w.heap[b]? (m.fz b)
  have f1 : ∀ b o, m.fz b = some o → fz2 b = some o := fun b o hb => by
    show @ite _ (K b) (dK b) w.heap[b]? (m.fz b) = some o
    split
    · exact hR.frz b o (.inr hb)
    · exact hb
  have f2 : ∀ b o, fz2 b = some o → w.heap[b]? = some o := fun b o hb => by
    have hb : @ite _ (K b) (dK b) w.heap[b]? (m.fz b) = some o := hb
    split at hb
    · exact hb
    · exact hR.frz b o (.inr hb)
  have f3 : ∀ b o, fz2 b = some o → m.fz b = some o ∨ K b := fun b o hb => by
    have hb : @ite _ (K b) (dK b) w.heap[b]? (m.fz b) = some o := hb
    split at hb
    · rename_i hk; exact .inr hk
    · exact .inl hb
  have hlm : Loc.le m ⟨m, fz2⟩ := ⟨fun _ _ h => h, f1⟩
  refine ⟨⟨m, fz2⟩, ⟨hlm, fun r c h1 h2 => ?_, ⟨fun r o b z hg hm => ?_, fun r s o q b y z hg hl hg' hl' hm hm' => ?_, fun r o b z hg hl hm => ?_, fun b o hb => ?_, fun r hr => ?_⟩, SameOut.refl w, Nat.le_refl _, fun b hb _ => rfl, Nat.le_refl _, fun r o' c hg hl _ => ⟨o', (hwo r o' hg).2, hl⟩, fun r b z h1 h2 _ => ?_, fun b o hb => ?_⟩, fun k x v y hv hy => ?_⟩
  · have h1 : m r = some c := h1
    rw [h2] at h1; cases h1
  · exact (hR.obj r o b z (hwo r o hg).2 hm).mono hlm
  · exact hR.inj r s o q b y z (hwo r o hg).2 hl (hwo s q hg').2 hl' hm hm'
  · obtain ⟨hn, h0⟩ := hwo r o hg
    obtain ⟨h1, h2⟩ := hR.out r o b z h0 hl hm
    refine ⟨h1, ?_⟩
    show fz2 b = none
    cases hf : fz2 b with
    | none => rfl
    | some x =>
      rcases f3 b x hf with h4 | ⟨s, q, y, hgs, hls, hms⟩
      · rw [h2] at h4; cases h4
      · obtain ⟨g1, g2⟩ := hsub s q hgs
        have h5 := hR.inj r s o _ b z y h0 hl g2 hls hm hms
        subst h5
        exact absurd g1 hn
  · rcases hb with hb | hb
    · exact hR.frz b o (.inl hb)
    · exact f2 b o hb
  · exact (wo_le S).wf (fun r hr => hR.wf r hr) r hr
  · have h1 : m r = some (b, z) := h1
    rw [h2] at h1; cases h1
  · rcases f3 b o hb with h1 | ⟨s, q, y, hgs, hls, hms⟩
    · exact .inl h1
    · exact .inr (.inr ⟨s, _, y, (hsub s q hgs).2, hls, hms⟩)
  · refine VRel.mono (m := ⟨fun _ => none, fz2⟩) (m' := ⟨m, fz2⟩) ⟨fun r c h => (by cases h), fun _ _ h => h⟩ (frzV_rel (fz := fz2) hRr f1 (fun r o b z ob hg hl hm hb => ?_) k x v y hv hy)
    show @ite _ (K b) (dK b) w.heap[b]? (m.fz b) = some ob
    rw [if_pos ⟨r, o, z, hg, hl, hm⟩]; exact hb
def ovl : Kn → Tr AV → Tr AV
 | [], tm => tm
 | (i, v) :: l, tm => (ovl l tm).set i v
theorem ovl_get : ∀ (l : Kn) (tm : Tr AV) (t : Nat), tget (ovl l tm) t = (match kn l t with | some v => v | none => tget tm t)
  | [], _, _ => rfl
  | (i, v) :: l, tm, t => by
    show tget ((ovl l tm).set i v) t = _
    rw [tget_set]
    unfold kn
    by_cases e : i = t
    · subst e; rw [if_pos rfl, Nat.beq_refl]; rfl
    · rw [if_neg e, show Nat.beq i t = false from (by cases hb : Nat.beq i t with | false => rfl | true => exact absurd (Nat.eq_of_beq_eq_true hb) e), cond_false]
      exact ovl_get l tm t
theorem TW.freeze {c : Code} (S : Nat → Prop) (hl : ∀ t v', kn l' t = some v' → kn l t = some v' ∨ ∃ v k, kn l t = some v ∧ RdF S h k v v') (ht : TW P F c n rd l' (h.wo S) ds Q) : TW P F c n rd l h ds Q := fun s hs m a w fe k hr ha hf hF => by
  obtain ⟨m', hst, hv⟩ := Step.freeze S hr
  have hs' : Atk { s with tm := ovl l' s.tm, h := h.wo S } n rd l' (h.wo S) ds := ⟨hs.n, rfl, hs.ds, hs.rd, fun t v e => by
    show tget (ovl l' s.tm) t = v
    rw [ovl_get, e]⟩
  have htm : TRel P F m' (ovl l' s.tm) s.n a.tmps := by
    refine ⟨ha.tm.size, fun t htn => ?_, fun t htn => ?_⟩
    · rw [ovl_get]
      cases e : kn l' t with
      | none => exact (ha.tm.at' t htn).mono hst.le
      | some v' =>
        rcases hl t v' e with h1 | ⟨v, k, h1, h2⟩
        · have := ha.tm.at' t htn
          rw [hs.tm t v' h1] at this
          exact this.mono hst.le
        · have := ha.tm.at' t htn
          rw [hs.tm t v h1] at this
          exact hv _ _ _ _ this (h2 _ fun r hr => only_get hr)
    · rw [ovl_get]
      cases e : kn l' t with
      | none => exact ha.tm.out t htn
      | some v' =>
        have h0 := ha.tm.out t htn
        rcases hl t v' e with h1 | ⟨v, k, h1, h2⟩
        · rw [hs.tm t v' h1] at h0; exact h0
        · rw [hs.tm t v h1] at h0
          subst h0
          have h3 := h2 h fun _ _ => rfl
          cases k with
          | zero => cases h3
          | succ k => unfold frzV at h3; cases h3; rfl
  exact wpIn_mono (ht _ hs' m' a w fe k hst.rel ⟨htm, ha.ds.mono hst.le⟩ (hf.mono hst.le) (hF.after hst)) fun x a' w' hp => hp.after hst (wo_le S)
end Go.Ax
set_option maxRecDepth 20000
noncomputable section
namespace Go.Ax
open Go.Proofs
attribute [local irreducible] TW TO CallsT PureC
variable {F : Nat → Option Obj} {gl : Nat → AV} {K : Knob} {S S' : Nat → Prop}
theorem Own.mono {es b b' : Nat} {eT : TypeId} {h : Hp} {v : AV} {rows : List (List AV)} (H : Own es eT b h v rows) (hb : b' ≤ b) : Own es eT b' h v rows := by
 rcases H with h1 | ⟨h1, r, h2, h3, h4, h5⟩
 ·exact .inl h1
 ·exact .inr ⟨h1, r, by omega, h3, h4, h5⟩
end Go.Ax
set_option maxRecDepth 20000
noncomputable section
namespace Go.Ax
open Go.Proofs
attribute [local irreducible] TW TO CallsT PureC
variable {F : Nat → Option Obj} {gl : Nat → AV} {K : Knob}
theorem drop_get {α : Type} {l : List α} {i : Nat} {x : α} (h : l[i]? = some x) : l.drop i = x :: l.drop (i + 1) := by
 obtain ⟨h1, rfl⟩ := List.getElem?_eq_some_iff.1 h
 exact List.drop_eq_getElem_cons h1
def gI (l : List LIns) : Bool := l.any fun x => decide (20 < x.args.list.length) || decide (20 < x.frm.list.length)
def gB (most : Int) : List LBlock → Int → Bool
 | [], _ => false
 | b :: l, n => decide (most < n + b.ins.list.length) || (gI b.ins.list || gB most l (n + b.ins.list.length))
def gF (most : Int) : List LFunc → Int → Bool
 | [], _ => false
 | f :: l, n => decide (20 < f.blocks.list.length) || (gB most f.blocks.list n || gF most l (n + many6 f.blocks.list))
def great6 (p : LProg) (most : Int) : Bool := great3 p.types.list || (decide (10 < p.funcs.list.length) || gF most p.funcs.list 0)
set_option maxHeartbeats 2000000 in
theorem Great6_pure (hP : POk Tryz.prog F gl K) (p : LProg) (most : Int) (hm : most < 1000000) (hb : ∀ f ∈ p.funcs.list, ∀ b ∈ f.blocks.list, b.ins.list.length < 4611686018427387904) : PureC Tryz.prog F N_fescueref06_Great [.agg p.cells, .int .i64 most] (.bool (great6 p most)) := by
  refine CallsT.pure (O := fun u _ => u = .bool (great6 p most)) (k := 1) (by simp) ?_ (fun u g e => by subst e; rfl)
  refine CallsT.body hP nix_sound E_fescueref06_Great rfl rfl ?_
  have e1 := Great3_pure hP p.types
  cases h3 : great3 p.types.list with
  | true =>
    rw [h3] at e1
    repeat' first | refine TW.seq ?_ | refine TW.condT hP rfl ?_ | (refine TW.regG hP (by simp <;> rfl) ?_; dsimp only [goK]) | (refine TO.scall hP I_fescueref03_Great (e1) ?_ rfl rfl rfl rfl ?_; (focus (simp; done)); refine TO.runsG hP (by simp <;> rfl) ?_; dsimp only [goK]) | simp only [thenQ] | (refine TW.ret ⟨.inr rfl, _, _, rfl, rfl, ?_⟩; dsimp only [tupOf])
    all_goals simp [great6, h3]
  | false =>
  rw [h3] at e1
  repeat' first | refine TW.seq ?_ | refine TW.block ?_ | refine TW.skip ?_ | (refine TW.regG hP (by simp <;> rfl) ?_; dsimp only [goK]) | (refine TO.scall hP I_fescueref03_Great (e1) ?_ rfl rfl rfl rfl ?_; (focus (simp; done)); refine TO.runsG hP (by simp <;> rfl) ?_; dsimp only [goK]) | simp only [thenQ] | (refine TW.cond hP rfl (fun hc => ?_) (fun hc => ?_) <;> simp at hc) | (refine TW.ret ⟨.inr rfl, _, _, rfl, rfl, ?_⟩; dsimp only [tupOf])
  · simp [great6, h3]; exact .inl (by omega)
  have hw : great6 p most = gF most p.funcs.list 0 := by simp [great6, h3]; intro h; omega
  rw [hw]
  refine TW.loopL (fun q : Nat × Int => [(1, .int .i64 most), (2, .ptr 0 0), (4, .bool false), (5, .int .i64 q.2), (6, .int .i64 q.1)]) (fun q g => q.1 ≤ p.funcs.list.length ∧ g.get 0 = some (.cells T_prog p.cells) ∧ 0 ≤ q.2 ∧ (q.2 = 0 ∨ q.2 ≤ most) ∧ gF most p.funcs.list 0 = gF most (p.funcs.list.drop q.1) q.2) (fun q => p.funcs.list.length - q.1) ((0, 0)) ?_ ?_ ?_
  focus (repeat' first | exact less_nil | refine less_cons (by simp) ?_)
  · exact ⟨Nat.zero_le _, by simp, by simp, .inl rfl, rfl⟩
  rintro ⟨i, n⟩ g ⟨hi, hg0, hn0, hn1, hall⟩
  dsimp only [T_prog, LProg.cells] at hi hg0 hn0 hn1 hall ⊢
  repeat' first | refine TW.seq ?_ | (refine TW.regG hP (by simp [hg0] <;> rfl) ?_; dsimp only [goK]) | simp only [thenQ]
  refine TW.cond hP rfl (fun hc => TW.skip ?_) (fun hc => TW.exit ?_)
  · simp at hc
    obtain ⟨x, hx⟩ := get_of_lt hc
    have hav := av_pos (e := LFunc.cells) (show 0 < p.funcs.list.length by omega)
    have hbx := hb x (List.mem_of_getElem? hx)
    rw [drop_get hx, gF] at hall
    dsimp only [thenQ]
    repeat' first | refine TW.seq ?_ | refine TW.block ?_ | refine TW.skip ?_ | (refine TW.regG hP (by simp [hg0, hx, hav] <;> rfl) ?_; dsimp only [goK]) | simp only [thenQ] | (refine TW.cond hP rfl (fun hc => ?_) (fun hc => ?_) <;> simp at hc) | (refine TW.ret ⟨.inr rfl, _, _, rfl, rfl, ?_⟩; dsimp only [tupOf])
    · rw [hall]; simp; exact .inl (by omega)
    rw [decide_eq_false (show ¬ 20 < x.blocks.list.length by omega), Bool.false_or] at hall
    refine TW.loopL (fun q : Nat × Int => [(1, .int .i64 most), (2, .ptr 0 0), (4, .bool false), (5, .int .i64 q.2), (6, .int .i64 i), (7, .int .i64 q.1)]) (fun q g => q.1 ≤ x.blocks.list.length ∧ g.get 0 = some (.cells T_prog p.cells) ∧ 0 ≤ q.2 ∧ (q.2 = 0 ∨ q.2 ≤ most) ∧ gF most p.funcs.list 0 = (gB most (x.blocks.list.drop q.1) q.2 || gF most (p.funcs.list.drop (i + 1)) (q.2 + many6 (x.blocks.list.drop q.1)))) (fun q => x.blocks.list.length - q.1) ((0, n)) ?_ ?_ ?_
    focus (repeat' first | exact less_nil | refine less_cons (by simp) ?_)
    · exact ⟨Nat.zero_le _, hg0, hn0, hn1, hall⟩
    rintro ⟨k, m⟩ g ⟨hk, hg0, hm0, hm1, hall⟩
    dsimp only [T_prog, LProg.cells] at hk hg0 hm0 hm1 hall ⊢
    repeat' first | refine TW.seq ?_ | (refine TW.regG hP (by simp [hg0, hx, hav] <;> rfl) ?_; dsimp only [goK]) | simp only [thenQ]
    refine TW.cond hP rfl (fun hc => TW.skip ?_) (fun hc => TW.exit ?_)
    · simp at hc
      obtain ⟨y, hy⟩ := get_of_lt hc
      have hbv := av_pos (e := LBlock.cells) (show 0 < x.blocks.list.length by omega)
      have hby := hbx y (List.mem_of_getElem? hy)
      rw [drop_get hy, gB, many6] at hall
      have hwn := w64e (n := m + y.ins.list.length) (by omega) (by omega)
      dsimp only [thenQ]
      repeat' first | refine TW.seq ?_ | refine TW.block ?_ | refine TW.skip ?_ | (refine TW.regG hP (by simp [hg0, hx, hav, hy, hbv, hwn] <;> rfl) ?_; dsimp only [goK]) | simp only [thenQ] | (refine TW.cond hP rfl (fun hc => ?_) (fun hc => ?_) <;> simp at hc) | (refine TW.ret ⟨.inr rfl, _, _, rfl, rfl, ?_⟩; dsimp only [tupOf])
      · rw [hall]; simp; exact .inl (.inl (by omega))
      rw [decide_eq_false (show ¬ most < m + y.ins.list.length by omega), Bool.false_or, ← Int.add_assoc, Bool.or_assoc] at hall
      refine TW.loopL (fun j : Nat => [(1, .int .i64 most), (2, .ptr 0 0), (4, .bool false), (5, .int .i64 (m + y.ins.list.length)), (6, .int .i64 i), (7, .int .i64 k), (8, y.ins.av LIns.cells), (9, .int .i64 j)]) (fun j g => j ≤ y.ins.list.length ∧ g.get 0 = some (.cells T_prog p.cells) ∧ gF most p.funcs.list 0 = (gI (y.ins.list.drop j) || (gB most (x.blocks.list.drop (k + 1)) (m + y.ins.list.length) || gF most (p.funcs.list.drop (i + 1)) (m + y.ins.list.length + many6 (x.blocks.list.drop (k + 1)))))) (fun j => y.ins.list.length - j) (0) ?_ ?_ ?_
      focus (repeat' first | exact less_nil | refine less_cons (by simp) ?_)
      · exact ⟨Nat.zero_le _, hg0, hall⟩
      rintro j g ⟨hj, hg0, hall⟩
      dsimp only [T_prog, LProg.cells] at hj hg0 hall ⊢
      repeat' first | refine TW.seq ?_ | (refine TW.regG hP (by simp <;> rfl) ?_; dsimp only [goK]) | simp only [thenQ]
      refine TW.cond hP rfl (fun hc => TW.skip ?_) (fun hc => TW.exit ?_)
      · simp at hc
        obtain ⟨z, hz⟩ := get_of_lt hc
        have hiv := av_pos (e := LIns.cells) (show 0 < y.ins.list.length by omega)
        rw [drop_get hz, gI, List.any_cons] at hall
        dsimp only [thenQ]
        repeat' first | refine TW.seq ?_ | refine TW.block ?_ | refine TW.skip ?_ | refine TW.condT hP rfl ?_ | (refine TW.regG hP (by simp [hz, hiv] <;> rfl) ?_; dsimp only [goK]) | (refine goK_guard (fun hb => ?_) (fun hb => ?_) <;> (try simp only [Bool.not_eq_eq_eq_not, Bool.not_true, Bool.not_false] at hb) <;> (refine goK_eq (by simp [hb, hz] <;> rfl) ?_; dsimp only [goK])) | simp only [thenQ, roundL] | (refine TW.cond hP rfl (fun hc => ?_) (fun hc => ?_) <;> simp at hc) | (refine TW.ret ⟨.inr rfl, _, _, rfl, rfl, ?_⟩; dsimp only [tupOf])
        all_goals first
          | (rw [hall]; simp at hb; simp; exact .inl (.inl (.inl (by omega))))
          | (rw [hall]; simp; exact .inl (.inl (.inr (by omega))))
          | (refine ⟨j + 1, by omega, trivial, ?_, by omega, hg0, ?_⟩
             · (repeat' first | exact less_nil | refine less_cons (by simp [hiv, w64s (show j < 9000000000000000000 by omega)]) ?_)
             · simp at hb
               rw [decide_eq_false (show ¬ 20 < z.args.list.length by omega), decide_eq_false (show ¬ 20 < z.frm.list.length by omega)] at hall
               exact hall)
      · simp at hc
        dsimp only [thenQ]
        repeat' first | (refine TW.regG hP (by simp <;> rfl) ?_; dsimp only [goK]) | simp only [roundL]
        rw [List.drop_of_length_le hc] at hall
        refine ⟨(k + 1, m + y.ins.list.length), by dsimp only; omega, trivial, ?_, by dsimp only; omega, hg0, by dsimp only; omega, by dsimp only; omega, hall⟩
        repeat' first | exact less_nil | refine less_cons (by simp [w64s (show k < 9000000000000000000 by omega)]) ?_
    · simp at hc
      dsimp only [thenQ]
      repeat' first | (refine TW.regG hP (by simp <;> rfl) ?_; dsimp only [goK]) | simp only [roundL]
      rw [List.drop_of_length_le hc] at hall
      refine ⟨(i + 1, m), by dsimp only; omega, trivial, ?_, by dsimp only; omega, hg0, hm0, hm1, by simpa [gB, many6] using hall⟩
      repeat' first | exact less_nil | refine less_cons (by simp [w64s (show i < 9000000000000000000 by omega)]) ?_
  · simp at hc
    dsimp only [thenQ]
    repeat' first | refine TW.seq ?_ | (refine TW.regG hP (by simp <;> rfl) ?_; dsimp only [goK]) | simp only [thenQ] | (refine TW.ret ⟨.inr rfl, _, _, rfl, rfl, ?_⟩; dsimp only [tupOf])
    rw [hall, List.drop_of_length_le hc]; rfl
theorem gI_false {l : List LIns} (h : gI l = false) : ∀ x ∈ l, x.args.list.length ≤ 20 ∧ x.frm.list.length ≤ 20 := fun x hx => by
 have := List.any_eq_false.1 h x hx
 simp at this
 omega
theorem gB_false {most : Int} : ∀ {l : List LBlock} {n : Int}, gB most l n = false → (∀ b ∈ l, ∀ x ∈ b.ins.list, x.args.list.length ≤ 20 ∧ x.frm.list.length ≤ 20) ∧ (n + many6 l ≤ most ∨ l = [])
  | [], n, h => ⟨nofun, .inr rfl⟩
  | b :: l, n, h => by
    rw [gB, Bool.or_eq_false_iff, Bool.or_eq_false_iff] at h
    obtain ⟨h1, h2, h3⟩ := h
    obtain ⟨h4, h5⟩ := gB_false h3
    simp at h1
    refine ⟨fun c hc => ?_, .inl ?_⟩
    · rcases List.mem_cons.1 hc with rfl | hc
      · exact gI_false h2
      · exact h4 c hc
    · rw [many6]
      rcases h5 with h5 | rfl
      · omega
      · simp [many6]; omega
theorem gF_false {most : Int} : ∀ {l : List LFunc} {n : Int}, gF most l n = false → ∀ f ∈ l, f.blocks.list.length ≤ 20 ∧ (∀ b ∈ f.blocks.list, ∀ x ∈ b.ins.list, x.args.list.length ≤ 20 ∧ x.frm.list.length ≤ 20) ∧ (n + many6 f.blocks.list ≤ most ∨ f.blocks.list = [])
  | [], n, h => nofun
  | f :: l, n, h => by
    rw [gF, Bool.or_eq_false_iff, Bool.or_eq_false_iff] at h
    obtain ⟨h1, h2, h3⟩ := h
    simp at h1
    intro x hx
    rcases List.mem_cons.1 hx with rfl | hx
    · exact ⟨by omega, gB_false h2⟩
    · obtain ⟨a, b, c⟩ := gF_false h3 x hx
      have := many6_nonneg f.blocks.list
      exact ⟨a, b, c.imp (fun c => by omega) id⟩
theorem great6_small {p : LProg} {most : Int} (hm : most < 1000) (h : great6 p most = false) : SmallP p ∧ p.funcs.list.length ≤ 10 ∧ p.types.list.length ≤ 20 ∧ (∀ x ∈ p.types.list, x.parts.list.length ≤ 20) ∧ ∀ f ∈ p.funcs.list, f.blocks.list.length ≤ 20 ∧ (∀ b ∈ f.blocks.list, ∀ x ∈ b.ins.list, x.args.list.length ≤ 20 ∧ x.frm.list.length ≤ 20) ∧ (many6 f.blocks.list ≤ most ∨ f.blocks.list = []) := by
 rw [great6, Bool.or_eq_false_iff, Bool.or_eq_false_iff] at h
 obtain ⟨h1, h2, h3⟩ := h
 rw [great3, Bool.or_eq_false_iff] at h1
 obtain ⟨h4, h5⟩ := h1
 simp at h2 h5
 rw [List.take_of_length_le (by omega)] at h4
 have h6 : ∀ x ∈ p.types.list, x.parts.list.length ≤ 20 := fun x hx => by have := List.any_eq_false.1 h4 x hx; simp at this; omega
 have h7 := fun f hf => gF_false h3 f hf
 simp only [Int.zero_add] at h7
 refine ⟨⟨by omega, fun x hx => by have := h6 x hx; omega, by omega, fun f hf => ?_⟩, by omega, by omega, h6, h7⟩
 obtain ⟨a, b, c⟩ := h7 f hf
 refine ⟨by omega, ?_, fun b' hb x hx => by have := b b' hb x hx; omega, fun b' hb x hx => by have := b b' hb x hx; omega⟩
 rcases c with c | c
 ·omega
 ·rw [c]; simp [many6]
end Go.Ax
set_option maxRecDepth 20000
noncomputable section
namespace Go.Ax
open Go.Proofs
section
variable {P : Program} {F : Nat → Option Obj} {n : Nat} {rd : Option Nat} {l l' : Kn} {h : Hp} {ds : List ADef} {Q : PQ}
def FrzK (S : Nat → Prop) (h : Hp) (l l' : Kn) : Prop := ∀ t v', kn l' t = some v' → kn l t = some v' ∨ ∃ v k, kn l t = some v ∧ RdF S h k v v'
theorem frz_nil {S : Nat → Prop} : FrzK S h l [] := fun t v e => by cases e
theorem frz_keep {S : Nat → Prop} {t : Nat} {v : AV} (h1 : kn l t = some v) (h2 : FrzK S h l l') : FrzK S h l ((t, v) :: l') := fun u w hu => by
 unfold kn at hu
 cases hb : Nat.beq t u with
 | true => rw [hb] at hu; cases hu; rw [← Nat.eq_of_beq_eq_true hb]; exact .inl h1
 | false => rw [hb] at hu; exact h2 u w hu
theorem frz_turn {S : Nat → Prop} {t k : Nat} {v v' : AV} (h1 : kn l t = some v) (h3 : RdF S h k v v') (h2 : FrzK S h l l') : FrzK S h l ((t, v') :: l') := fun u w hu => by
 unfold kn at hu
 cases hb : Nat.beq t u with
 | true => rw [hb] at hu; cases hu; rw [← Nat.eq_of_beq_eq_true hb]; exact .inr ⟨v, k, h1, h3⟩
 | false => rw [hb] at hu; exact h2 u w hu
end
attribute [local irreducible] TW TO CallsT PureC
variable {F : Nat → Option Obj} {gl : Nat → AV} {K : Knob} {S S' : Nat → Prop}
end Go.Ax
set_option maxRecDepth 20000
noncomputable section
namespace Go.Ax
open Go.Proofs
attribute [local irreducible] TW TO CallsT PureC
variable {F : Nat → Option Obj} {gl : Nat → AV} {K : Knob} {S S' : Nat → Prop}
def noP : LProg := { types := .nil, funcs := .nil }
theorem regsIn_of {p : LProg} {x : LFunc} (h : mayFunc6 p x = true) : ∀ b ∈ x.blocks.list, RegsIn (regs6 p x).toNat b := by
 simp only [mayFunc6, Bool.and_eq_true] at h
 have h2 := List.all_eq_true.1 h.2
 intro b hb
 have h3 := h2 b hb
 simp only [mayBlock6, Bool.and_eq_true] at h3
 obtain ⟨h4, h5⟩ := h3
 have low : ∀ {l : List Int} {n : Int}, lower3 l n = true → ∀ r ∈ l, 0 ≤ r ∧ r < n := fun {l n} h r hr => by
  have := List.all_eq_true.1 h r hr
  simp at this
  omega
 have key : ∀ y ∈ b.ins.list, (∀ r ∈ uses6 y, 0 ≤ r ∧ r < regs6 p x) ∧ (hasArgs6 y.op = true ∨ y.args.list.length = 0) := fun y hy => by
  have h6 := List.all_eq_true.1 h4 y hy
  simp only [mayIns6, mayInsA, mayInsB, Bool.and_eq_true, Bool.not_eq_true', Bool.or_eq_false_iff, Bool.not_eq_false'] at h6
  refine ⟨low h6.1.2.1, ?_⟩
  have h7 := h6.2.1.2.2
  cases hh : hasArgs6 y.op with
  | true => exact .inl rfl
  | false => rw [hh] at h7; simp at h7; exact .inr (by simp [h7])
 refine ⟨fun y hy hA => ?_, fun y hy h2 => ?_, fun y hy r hr => ?_, fun hk => ?_⟩
 ·have := (key y hy).1 y.a (by unfold uses6; simp [hA]); omega
 ·have := (key y hy).1 y.b (by unfold uses6; simp [h2]); omega
 ·rcases (key y hy).2 with h7 | h7
  ·have := (key y hy).1 r (by unfold uses6; simp [h7, hr]); omega
  ·have := List.eq_nil_of_length_eq_zero h7
   rw [this] at hr; cases hr
 ·unfold mayEnd6 at h5
  rcases hk with hk | hk
  ·simp only [hk, if_neg (show ¬ (2 : Int) = 1 by decide), if_true, Bool.and_eq_true] at h5
   have := low h5.1 b.ed.a (by simp); omega
  ·simp only [hk, if_neg (show ¬ (3 : Int) = 1 by decide), if_neg (show ¬ (3 : Int) = 2 by decide), if_true, Bool.and_eq_true] at h5
   have := low h5.2.2 b.ed.a (by simp); omega
theorem regs6_small {p : LProg} {x : LFunc} (h : mayFunc6 p x = true) (hp : ∀ y ∈ p.types.list, y.parts.list.length < 900000) : 0 ≤ regs6 p x ∧ regs6 p x < 1000000 := by
 obtain ⟨a1, a2, a3, a4, a5, a6⟩ := mayFunc6_sig h
 have h1 := many6_nonneg x.blocks.list
 have hsp : 0 ≤ sigParts p x ∧ sigParts p x < 900000 := by
  unfold sigParts
  cases hx : p.types.list[x.sig.toNat]? with
  | none => simp
  | some y => have := hp y (List.mem_of_getElem? hx); simp; omega
 unfold regs6
 omega
def shapeCells : List AV := [.bool false, .bool false, .bool false, .bool false, .bool false, .bool false, .bool false, .bool false, .bool true, .bool false, .bool false, .bool true, .bool false, .bool false, .bool false, .bool false, .bool false, .bool true, .bool false, .bool false, .bool true, .bool false, .bool false, .bool true, .bool true, .bool true, .bool false, .bool false, .bool false, .bool true, .bool true, .bool true, .bool false, .bool false, .bool false, .bool true, .bool true, .bool true, .bool false, .bool false, .bool false, .bool true, .bool true, .bool true, .bool false, .bool false, .bool false, .bool true, .bool true, .bool true, .bool false, .bool false, .bool false, .bool true, .bool true, .bool true, .bool false, .bool false, .bool false, .bool true, .bool true, .bool true, .bool false, .bool false, .bool false, .bool true, .bool false, .bool false, .bool false, .bool false, .bool false, .bool true, .bool false, .bool false, .bool false, .bool false, .bool false, .bool true, .bool true, .bool false, .bool false, .bool false, .bool false, .bool false, .bool true, .bool false, .bool true, .bool false, .bool false, .bool true, .bool true, .bool true, .bool false, .bool false, .bool false, .bool true, .bool true, .bool false, .bool false, .bool false, .bool false, .bool true, .bool true, .bool true, .bool false, .bool false, .bool false, .bool false, .bool false, .bool false, .bool true, .bool true, .bool false, .bool true, .bool true, .bool false, .bool false, .bool true, .bool false, .bool true, .bool false, .bool false, .bool false, .bool false, .bool false, .bool true, .bool true, .bool false, .bool false, .bool false, .bool false, .bool false, .bool false, .bool false, .bool false, .bool true, .bool true, .bool true]
def hasN6 (op : Int) : Bool := decide (op = 1) || (decide (op = 3) || (decide (op = 14) || decide (op = 18)))
def hasS (op : Int) : List AV := [.bool (hasA6 op), .bool (two6 op), .bool (hasN6 op), .bool (hasArgs6 op), .bool (decide (op = 22)), .bool (answers6 op)]
theorem table_at : ∀ n : Nat, n < 23 → sub shapeCells (n * 6) 6 = some (hasS n)
 | 0, _ => rfl | 1, _ => rfl | 2, _ => rfl | 3, _ => rfl | 4, _ => rfl | 5, _ => rfl | 6, _ => rfl | 7, _ => rfl | 8, _ => rfl | 9, _ => rfl | 10, _ => rfl | 11, _ => rfl | 12, _ => rfl | 13, _ => rfl | 14, _ => rfl | 15, _ => rfl | 16, _ => rfl | 17, _ => rfl | 18, _ => rfl | 19, _ => rfl | 20, _ => rfl | 21, _ => rfl | 22, _ => rfl
 | n + 23, h => absurd h (by omega)
theorem hasS_out {op : Int} (h : 23 ≤ op) : hasS op = [.bool false, .bool false, .bool false, .bool false, .bool false, .bool false] := by
 have h1 : two6 op = false := by unfold two6; simp; omega
 have h2 : hasA6 op = false := by unfold hasA6; rw [h1]; simp; omega
 have h3 : hasN6 op = false := by unfold hasN6; simp; omega
 have h4 : hasArgs6 op = false := by unfold hasArgs6; simp; omega
 have h5 : answers6 op = false := by
  cases ha : answers6 op with
  | false => rfl
  | true => unfold answers6 at ha; simp at ha; omega
 rw [hasS, h1, h2, h3, h4, h5, decide_eq_false (show ¬ op = 22 by omega)]
theorem isSlice_int {k : IntKind} {n : Int} : isSlice (.int k n) = false := rfl
theorem frz_has (op : Int) (h : Hp) : frzV 2 h (.agg (hasS op)) = some (.agg (hasS op)) := by
 rw [frzV]
 rfl
theorem of_pure (hP : POk Tryz.prog F gl K) (hG : gl NG_shape_table = .iptr [shapeCells] 0 0) (op : Int) (h0 : 0 ≤ op) (h1 : op < 256) : PureC Tryz.prog F N_shape_of [.int .u8 op] (.agg (hasS op)) := by
 refine CallsT.pure (O := fun u _ => u = .agg (hasS op)) (k := 2) (by simp) ?_ (fun u m e => by subst e; exact frz_has _ _)
 refine CallsT.body hP nix_sound E_shape_of rfl rfl ?_
 obtain ⟨n, rfl⟩ := Int.eq_ofNat_of_zero_le h0
 dsimp only [NG_shape_table] at hG
 have hw : wrapF .i64 (n : Int) = n := w64e (n := (n : Int)) (by omega) (by omega)
 have hgl : ∀ K' : Knob, (Ctx.of Tryz.prog gl K').gl 0 = .iptr [shapeCells] 0 0 := fun _ => hG
 by_cases hn : n < 23
 ·have ht := table_at n hn
  have ht1 : n * 6 + 6 ≤ shapeCells.length := by show n * 6 + 6 ≤ 138; omega
  have ht2 : (shapeCells.drop (n * 6)).take 6 = hasS (n : Int) := by
   unfold sub at ht
   rw [show Nat.ble (Nat.add (n * 6) 6) shapeCells.length = true from Nat.ble_eq_true_of_le ht1] at ht
   exact Option.some.inj ht
  have hl : (hasS (n : Int)).length = 6 := rfl
  have hc6 : (hasS (n : Int)).all isCell = true := rfl
  repeat' first | refine TW.seq ?_ | refine TW.condT hP rfl ?_ | (refine TW.regG hP (by simp [hgl, ht1, ht2, hn, (show (n : Int) < 23 by omega), isSlice_int, convA, hw, hl, hc6] <;> rfl) ?_; dsimp only [goK]) | simp only [thenQ] | (refine TW.ret ⟨.inr rfl, _, _, rfl, rfl, ?_⟩; dsimp only [tupOf])
  rfl
 ·have ht := hasS_out (op := (n : Int)) (by omega)
  repeat' first | refine TW.seq ?_ | refine TW.skip ?_ | refine TW.condF hP rfl ?_ | (refine TW.regG hP (by simp [(show ¬ (n : Int) < 23 by omega), isSlice_int, convA, hw] <;> rfl) ?_; dsimp only [goK]) | simp only [thenQ] | (refine TW.ret ⟨.inr rfl, _, _, rfl, rfl, ?_⟩; dsimp only [tupOf])
  rw [ht]; rfl
set_option maxHeartbeats 1000000 in
theorem Uses_pure (hP : POk Tryz.prog F gl K) (hG : gl NG_shape_table = .iptr [shapeCells] 0 0) (x : LIns) (h0 : 0 ≤ x.op) (h1 : x.op < 256) (hlen : x.args.list.length < 900000) : PureC Tryz.prog F N_shape_Uses [.agg x.cells] (slOf (uses6 x)) := by
  refine CallsT.pure (O := fun u g => frzV 3 g u = some (slOf (uses6 x))) (k := 3) (by simp) ?_ (fun u g e => e)
  refine CallsT.body hP nix_sound E_shape_Uses rfl rfl ?_
  have e1 := of_pure hP hG x.op h0 h1
  have hl : (hasS x.op).length = 6 := rfl
  have hc6 : (hasS x.op).all isCell = true := rfl
  refine TW.seq (TW.regG hP (by simp <;> rfl) ?_)
  dsimp only [goK, thenQ, blockQ, roundL]
  try refine TW.seq ?_
  refine TW.regG hP (by simp <;> rfl) ?_
  dsimp only [goK]
  refine TO.scall hP I_shape_of (e1) (by simp) rfl rfl rfl rfl ?_
  refine TO.runsG hP (by simp [hl, hc6] <;> rfl) ?_
  dsimp only [goK, thenQ]
  refine TW.gen (fun g => g.get 0 = some (.cells T_ins x.cells) ∧ g.get 1 = some (.cells T_has (hasS x.op)) ∧ 2 ≤ g.nx) ⟨by simp [get_put], by simp [get_put], by simp⟩ fun g hgg => ?_
  obtain ⟨hg, hg1, hnx⟩ := hgg
  dsimp only [T_ins, T_has, hasS] at hg hg1
  refine TW.join (fun v : AV => [(1, .ptr 0 0), (2, v), (3, .ptr 1 0)]) (fun v g => g.get 0 = some (.cells T_ins x.cells) ∧ g.get 1 = some (.cells T_has (hasS x.op)) ∧ 2 ≤ g.nx ∧ Own 1 T_int 2 g v ((if hasA6 x.op = true then [x.a] else []).map cI)) ?_ ?_
  · cases hA : hasA6 x.op with
    | true =>
      rw [hA] at hg1
      obtain ⟨v', k', happ, hown', hwb, hnx'⟩ := (Own.nil (es := 1) (eT := T_int) (b := 2) (h := g)).push (t := T_ints) (row := [.int .i64 x.a]) (slt_ints (gl := gl) (K := K)) (fun c hc => by cases hc) rfl rfl (by simp) hnx
      dsimp only [T_ints, T_int] at happ
      repeat' first | refine TW.seq ?_ | refine TW.condT hP rfl ?_ | (refine TW.regG hP (by simp [hg, hg1, happ] <;> rfl) ?_; dsimp only [goK]) | simp only [↓reduceIte]
      refine ⟨v', rfl, ?_, ?_, ?_, by omega, hown'⟩
      · repeat' first | exact less_nil | refine less_cons (by simp) ?_
      · rw [hwb.get 0 (by omega)]; exact hg
      · rw [hwb.get 1 (by omega), hg1, hasS, hA]
    | false =>
      rw [hA] at hg1
      repeat' first | refine TW.seq ?_ | refine TW.skip ?_ | refine TW.condF hP rfl ?_ | (refine TW.regG hP (by simp [hg1] <;> rfl) ?_; dsimp only [goK]) | simp only [↓reduceIte, reduceCtorEq]
      refine ⟨.nilsl, rfl, ?_, hg, by rw [hg1, hasS, hA], hnx, .nil⟩
      repeat' first | exact less_nil | refine less_cons (by simp) ?_
  rintro v g ⟨hg, hg1, hnx, hown⟩
  dsimp only [T_ins, T_int, T_has, hasS] at hg hg1 hown
  refine TW.join (fun v : AV => [(1, .ptr 0 0), (2, v), (3, .ptr 1 0)]) (fun v g => g.get 0 = some (.cells T_ins x.cells) ∧ g.get 1 = some (.cells T_has (hasS x.op)) ∧ 2 ≤ g.nx ∧ Own 1 T_int 2 g v (((if hasA6 x.op = true then [x.a] else []) ++ (if two6 x.op = true then [x.b] else [])).map cI)) ?_ ?_
  · cases h2 : two6 x.op with
    | true =>
      rw [h2] at hg1
      obtain ⟨v', k', happ, hown', hwb, hnx'⟩ := hown.push (t := T_ints) (row := [.int .i64 x.b]) (slt_ints (gl := gl) (K := K)) ints_len rfl rfl (by split <;> simp) hnx
      dsimp only [T_ints, T_int] at happ
      repeat' first | refine TW.seq ?_ | refine TW.condT hP rfl ?_ | (refine TW.regG hP (by simp [hg, hg1, happ] <;> rfl) ?_; dsimp only [goK]) | simp only [↓reduceIte]
      refine ⟨v', rfl, ?_, ?_, ?_, by omega, ?_⟩
      · repeat' first | exact less_nil | refine less_cons (by simp) ?_
      · rw [hwb.get 0 (by omega)]; exact hg
      · rw [hwb.get 1 (by omega), hg1, hasS, h2]
      · rw [List.map_append]; exact hown'
    | false =>
      rw [h2] at hg1
      repeat' first | refine TW.seq ?_ | refine TW.skip ?_ | refine TW.condF hP rfl ?_ | (refine TW.regG hP (by simp [hg1] <;> rfl) ?_; dsimp only [goK]) | simp only [↓reduceIte, reduceCtorEq]
      refine ⟨v, rfl, ?_, hg, by rw [hg1, hasS, h2], hnx, by simpa using hown⟩
      repeat' first | exact less_nil | refine less_cons (by simp) ?_
  rintro v g ⟨hg, hg1, hnx, hown⟩
  dsimp only [T_ins, T_int, T_has, hasS] at hg hg1 hown
  refine TW.join (fun v : AV => [(1, .ptr 0 0), (2, v), (3, .ptr 1 0)]) (fun v g => Own 1 T_int 2 g v ((uses6 x).map cI)) ?_ ?_
  · cases h2 : hasArgs6 x.op with
    | true =>
      rw [h2] at hg1
      obtain ⟨v', k', happ, hown', hwb⟩ := Own.more (x := x.args.av cI) (rows' := x.args.list.map cI) (slt_ints (gl := gl) (K := K)) isrc_ints hown ints_len (lenA_ints _) rfl (src_ints _) ints_len ints_cell (by simp only [List.length_map, List.length_append]; (repeat' split) <;> simp <;> omega) hnx
      dsimp only [T_ints, T_int] at happ
      repeat' first | refine TW.seq ?_ | refine TW.condT hP rfl ?_ | (refine TW.regG hP (by simp [hg, hg1, happ] <;> rfl) ?_; dsimp only [goK])
      refine ⟨v', rfl, ?_, ?_⟩
      · repeat' first | exact less_nil | refine less_cons (by simp) ?_
      · rw [← List.map_append] at hown'; simpa [uses6, h2] using hown'
    | false =>
      rw [h2] at hg1
      repeat' first | refine TW.seq ?_ | refine TW.skip ?_ | refine TW.condF hP rfl ?_ | (refine TW.regG hP (by simp [hg1] <;> rfl) ?_; dsimp only [goK])
      refine ⟨v, rfl, ?_, by simpa [uses6, h2] using hown⟩
      repeat' first | exact less_nil | refine less_cons (by simp) ?_
  rintro v g hown
  repeat' first | refine TW.seq ?_ | (refine TW.regG hP (by simp <;> rfl) ?_; dsimp only [goK]) | simp only [thenQ] | (refine TW.ret ⟨.inr rfl, _, _, rfl, rfl, ?_⟩; dsimp only [tupOf])
  exact own_slOf hown
theorem Ends_pure (hP : POk Tryz.prog F gl K) (x : LEnd) : PureC Tryz.prog F N_shape_Ends [.agg x.cells] (slOf (endsS x)) := by
 refine CallsT.pure (O := fun u g => frzV 3 g u = some (slOf (endsS x))) (k := 3) (by simp) ?_ (fun u g e => e)
 refine CallsT.body hP nix_sound E_shape_Ends rfl rfl ?_
 by_cases hk : x.kind = 2 ∨ x.kind = 3
 ·rcases hk with hk | hk
  ·repeat' first | refine TW.seq ?_ | refine TW.condT hP rfl ?_ | (refine TW.regG hP (by simp [hk] <;> rfl) ?_; dsimp only [goK]) | simp only [thenQ] | (refine TW.ret ⟨.inr rfl, _, _, rfl, rfl, ?_⟩; dsimp only [tupOf])
   all_goals first | (simp only [endsS, hk]; rfl)
  ·repeat' first | refine TW.seq ?_ | refine TW.condT hP rfl ?_ | (refine TW.regG hP (by simp [hk] <;> rfl) ?_; dsimp only [goK]) | simp only [thenQ] | (refine TW.ret ⟨.inr rfl, _, _, rfl, rfl, ?_⟩; dsimp only [tupOf])
   all_goals first | (simp only [endsS, hk]; rfl)
 ·repeat' first | refine TW.seq ?_ | refine TW.skip ?_ | refine TW.condF hP rfl ?_ | (refine TW.regG hP (by simp [(show ¬ x.kind = 2 by omega), (show ¬ x.kind = 3 by omega)] <;> rfl) ?_; dsimp only [goK]) | simp only [thenQ] | (refine TW.ret ⟨.inr rfl, _, _, rfl, rfl, ?_⟩; dsimp only [tupOf])
  all_goals first | (simp only [endsS, if_neg hk]; rfl)
theorem many_pure (hP : POk Tryz.prog F gl K) (f : LFunc) (hs : SmallF f) : PureC Tryz.prog F N_shape_many [.agg f.cells] (.int .i64 (many6 f.blocks.list)) := by
 refine CallsT.pure (O := fun u _ => u = .int .i64 (many6 f.blocks.list)) (k := 1) (by simp) ?_ (fun u g e => by subst e; rfl)
 refine CallsT.body hP nix_sound E_shape_many rfl rfl ?_
 have hnb := hs.nb
 have hm := hs.many
 repeat' first | refine TW.seq ?_ | refine TW.block ?_ | (refine TW.regG hP (by simp <;> rfl) ?_; dsimp only [goK])
 refine TW.loopL (fun i : Nat => [(2, .int .i64 (many6 (f.blocks.list.take i))), (6, f.blocks.av LBlock.cells), (7, .int .i64 f.blocks.list.length), (8, .int .i64 i)]) (fun i _ => i ≤ f.blocks.list.length) (fun i => f.blocks.list.length - i) (0) ?_ ?_ ?_
 focus (repeat' first | exact less_nil | refine less_cons (by simp [many6]) ?_)
 ·exact Nat.zero_le _
 rintro i g hi
 repeat' first | refine TW.seq ?_ | (refine TW.regG hP (by simp <;> rfl) ?_; dsimp only [goK])
 refine TW.cond hP rfl (fun hc => TW.skip ?_) (fun hc => TW.exit ?_)
 ·simp at hc
  obtain ⟨x, hx⟩ := get_of_lt hc
  have hav := av_pos (e := LBlock.cells) (show 0 < f.blocks.list.length by omega)
  have hs := many6_take hx
  have h1 := many6_le f.blocks.list (i + 1)
  have h2 := many6_nonneg (f.blocks.list.take i)
  dsimp only [thenQ]
  repeat' first | refine TW.seq ?_ | refine TW.block ?_ | (refine TW.regG hP (by simp [hx, hav] <;> rfl) ?_; dsimp only [goK]) | simp only [roundL]
  refine ⟨i + 1, by omega, trivial, ?_, by omega⟩
  repeat' first | exact less_nil | refine less_cons (by simp [hav, w64s (show i < 9000000000000000000 by omega), hs, w64e (n := many6 (f.blocks.list.take i) + x.ins.list.length) (by omega) (by omega)]) ?_
 ·simp at hc
  dsimp only [thenQ]
  repeat' first | refine TW.seq ?_ | (refine TW.regG hP (by simp <;> rfl) ?_; dsimp only [goK]) | simp only [thenQ] | (refine TW.ret ⟨.inr rfl, _, _, rfl, rfl, ?_⟩; dsimp only [tupOf])
  rw [List.take_of_length_le hc]
def noHas : List AV := [.bool false, .bool false, .bool false, .bool false, .bool false, .bool false]
theorem eq_has (hE : K.eqT T_has = true) (a b c d e f : Bool) : binOpA (Ctx.of Tryz.prog gl K) .eql T_has (.agg [.bool a, .bool b, .bool c, .bool d, .bool e, .bool f]) (.agg noHas) = some (.bool (!(a || (b || (c || (d || (e || f))))))) := by
 have h1 : (Ctx.of Tryz.prog gl K).eqT T_has = true := hE
 show (bif guardA (Ctx.of Tryz.prog gl K) T_has _ (.agg noHas) then (match eqA (Ctx.of Tryz.prog gl K) 100 T_has _ (.agg noHas) with | some b => some (AV.bool b) | none => none) else none) = _
 have h2 : guardA (Ctx.of Tryz.prog gl K) T_has (.agg [.bool a, .bool b, .bool c, .bool d, .bool e, .bool f]) (.agg noHas) = true := h1
 have h3 : eqA (Ctx.of Tryz.prog gl K) 100 T_has (.agg [.bool a, .bool b, .bool c, .bool d, .bool e, .bool f]) (.agg noHas) = some (!(a || (b || (c || (d || (e || f)))))) := by
  dsimp only [T_has] at h1 ⊢
  cases a <;> cases b <;> cases c <;> cases d <;> cases e <;> cases f <;> simp [eqA, eqStep, eqFields, h1, noHas]
 rw [h2, h3]; rfl
def insF (a b n g f s : Bool) (num : Bool) (x : LIns) (z : LSizes) : Bool :=
  (a || (b || (n || (g || (f || s))))) && ((!a || belowS x.a z.regs) && ((!b || belowS x.b z.regs) && (thereS z.regs x.args.list && (num &&
  ((a || decide (x.a = 0)) && ((b || decide (x.b = 0)) && ((n || decide (x.n = 0)) && ((g || decide (x.args.list.length = 0)) && ((f || decide (x.frm.list.length = 0)) &&
  ((if s then belowS x.type z.types else decide (x.type = 0)) && (if f then thereS z.blocks x.frm.list && (decide (x.frm.list.length = x.args.list.length) && (decide (1 ≤ x.frm.list.length) && decide (x.frm.list.length ≤ 16))) else decide (x.args.list.length ≤ 4))))))))))))
set_option maxHeartbeats 4000000 in
theorem ins_p0 (hP : POk Tryz.prog F gl K) (hE : K.eqT T_has = true) (x : LIns) (z : LSizes) (e1 : PureC Tryz.prog F N_shape_of [.int .u8 x.op] (.agg [.bool false, .bool false, .bool false, .bool false, .bool false, .bool false])) (hal : x.args.list.length < 1000000) (hfl : x.frm.list.length < 1000000) : PureC Tryz.prog F N_shape_ins [.agg x.cells, .agg z.cells] (.bool (insF false false false false false false (numberS x z) x z)) := by
 refine CallsT.pure (O := fun u _ => u = .bool (insF false false false false false false (numberS x z) x z)) (k := 1) (by simp) ?_ (fun u g e => by subst e; rfl)
 refine CallsT.body hP nix_sound E_shape_ins rfl rfl ?_
 have heq := eq_has (gl := gl) hE false false false false false false
 dsimp only [noHas, T_has] at heq
 have ea := below_pure hP x.a z.regs
 have eb := below_pure hP x.b z.regs
 have et := below_pure hP x.type z.types
 have el := all_pure hP z.regs x.args hal
 have ef := all_pure hP z.blocks x.frm hfl
 have en := number_pure hP x z
 refine TW.seq (TW.regG hP (by simp <;> rfl) ?_)
 dsimp only [goK, thenQ, blockQ, roundL]
 repeat refine TW.seq ?_
 refine TW.regG hP (by simp <;> rfl) ?_
 dsimp only [goK]
 refine TO.scall hP I_shape_of (e1) (by simp) rfl rfl rfl rfl ?_
 refine TO.runsG hP (by simp <;> rfl) ?_
 dsimp only [goK, thenQ]
 refine TW.gen (fun g => g.get 0 = some (.cells T_ins x.cells) ∧ g.get 1 = some (.cells T_sizes z.cells) ∧ g.get 2 = some (.cells T_has [.bool false, .bool false, .bool false, .bool false, .bool false, .bool false])) ⟨by simp [get_put], by simp [get_put], by simp [get_put]⟩ fun g hgg => ?_
 obtain ⟨hg0, hg1, hg2⟩ := hgg
 dsimp only [T_ins, T_sizes, T_has] at hg0 hg1 hg2
 refine TW.join (fun _ : Unit => [(2, .ptr 0 0), (3, .ptr 1 0), (5, .ptr 2 0)]) (fun _ g => g.get 0 = some (.cells T_ins x.cells) ∧ g.get 1 = some (.cells T_sizes z.cells) ∧ g.get 2 = some (.cells T_has [.bool false, .bool false, .bool false, .bool false, .bool false, .bool false]) ∧ False) ?_ ?_
 ·repeat' first | refine TW.seq ?_ | refine TW.condT hP rfl ?_ | (refine TW.regG hP (by simp [hg0, hg1, hg2, heq] <;> rfl) ?_; dsimp only [goK]) | simp only [thenQ, blockQ, roundL, ↓reduceIte, Nat.reduceEqDiff, reduceCtorEq] | (refine TW.ret ⟨.inr rfl, _, _, rfl, rfl, ?_⟩; dsimp only [tupOf])
  all_goals clear ea eb et el ef en e1 heq
  all_goals first | (focus (simp_all [insF]; done))
 rintro _ g ⟨_, _, _, h⟩
 exact h.elim
set_option maxHeartbeats 4000000 in
theorem ins_pA (hP : POk Tryz.prog F gl K) (hE : K.eqT T_has = true) (x : LIns) (z : LSizes) {b0 b1 b2 b3 b4 b5 : Bool} (hbs : (b0, b1, b2, b3, b4, b5) ∈ [(false, false, true, false, false, true), (false, false, false, false, false, true), (true, true, false, false, false, true), (true, false, false, false, false, false), (true, false, true, false, false, true), (true, false, false, false, false, true), (true, true, false, false, false, false), (false, false, true, true, false, true), (true, false, false, true, false, true), (false, false, false, true, true, true)]) (e1 : PureC Tryz.prog F N_shape_of [.int .u8 x.op] (.agg [.bool b0, .bool b1, .bool b2, .bool b3, .bool b4, .bool b5])) (hal : x.args.list.length < 1000000) (hfl : x.frm.list.length < 1000000) : PureC Tryz.prog F N_shape_ins [.agg x.cells, .agg z.cells] (.bool (insF b0 b1 b2 b3 b4 b5 (numberS x z) x z)) := by
 refine CallsT.pure (O := fun u _ => u = .bool (insF b0 b1 b2 b3 b4 b5 (numberS x z) x z)) (k := 1) (by simp) ?_ (fun u g e => by subst e; rfl)
 refine CallsT.body hP nix_sound E_shape_ins rfl rfl ?_
 simp only [List.mem_cons, Prod.mk.injEq, List.not_mem_nil, or_false] at hbs
 have heq := eq_has (gl := gl) hE b0 b1 b2 b3 b4 b5
 dsimp only [noHas, T_has] at heq
 have ea := below_pure hP x.a z.regs
 have eb := below_pure hP x.b z.regs
 have et := below_pure hP x.type z.types
 have el := all_pure hP z.regs x.args hal
 have ef := all_pure hP z.blocks x.frm hfl
 have en := number_pure hP x z
 refine TW.seq (TW.regG hP (by simp <;> rfl) ?_)
 dsimp only [goK, thenQ, blockQ, roundL]
 repeat refine TW.seq ?_
 refine TW.regG hP (by simp <;> rfl) ?_
 dsimp only [goK]
 refine TO.scall hP I_shape_of (e1) (by simp) rfl rfl rfl rfl ?_
 refine TO.runsG hP (by simp <;> rfl) ?_
 dsimp only [goK, thenQ]
 refine TW.gen (fun g => g.get 0 = some (.cells T_ins x.cells) ∧ g.get 1 = some (.cells T_sizes z.cells) ∧ g.get 2 = some (.cells T_has [.bool b0, .bool b1, .bool b2, .bool b3, .bool b4, .bool b5])) ⟨by simp [get_put], by simp [get_put], by simp [get_put]⟩ fun g hgg => ?_
 obtain ⟨hg0, hg1, hg2⟩ := hgg
 dsimp only [T_ins, T_sizes, T_has] at hg0 hg1 hg2
 refine TW.join (fun _ : Unit => [(2, .ptr 0 0), (3, .ptr 1 0), (5, .ptr 2 0)]) (fun _ g => g.get 0 = some (.cells T_ins x.cells) ∧ g.get 1 = some (.cells T_sizes z.cells) ∧ g.get 2 = some (.cells T_has [.bool b0, .bool b1, .bool b2, .bool b3, .bool b4, .bool b5]) ∧ (b0 = true → belowS x.a z.regs = true) ∧ (b1 = true → belowS x.b z.regs = true) ∧ thereS z.regs x.args.list = true ∧ numberS x z = true) ?_ ?_
 ·rcases hbs with ⟨rfl, rfl, rfl, rfl, rfl, rfl⟩ | ⟨rfl, rfl, rfl, rfl, rfl, rfl⟩ | ⟨rfl, rfl, rfl, rfl, rfl, rfl⟩ | ⟨rfl, rfl, rfl, rfl, rfl, rfl⟩ | ⟨rfl, rfl, rfl, rfl, rfl, rfl⟩ | ⟨rfl, rfl, rfl, rfl, rfl, rfl⟩ | ⟨rfl, rfl, rfl, rfl, rfl, rfl⟩ | ⟨rfl, rfl, rfl, rfl, rfl, rfl⟩ | ⟨rfl, rfl, rfl, rfl, rfl, rfl⟩ | ⟨rfl, rfl, rfl, rfl, rfl, rfl⟩
  repeat' first | refine TW.seq ?_ | refine TW.skip ?_ | refine TW.condT hP rfl ?_ | (refine TW.regG hP (by simp [hg0, hg1, hg2, heq] <;> rfl) ?_; dsimp only [goK]) | (refine goK_guard (fun hb => ?_) (fun hb => ?_) <;> (try simp only [Bool.not_eq_eq_eq_not, Bool.not_true, Bool.not_false] at hb) <;> (refine goK_eq (by simp [hb, hg0, hg1, hg2, heq] <;> rfl) ?_; dsimp only [goK])) | (refine TO.scall hP I_shape_below (ea) ?_ rfl rfl rfl rfl ?_; (focus (simp; done)); refine TO.runsG hP (by simp [hg0, hg1, hg2, heq] <;> rfl) ?_; dsimp only [goK]) | (refine TO.scall hP I_shape_below (eb) ?_ rfl rfl rfl rfl ?_; (focus (simp; done)); refine TO.runsG hP (by simp [hg0, hg1, hg2, heq] <;> rfl) ?_; dsimp only [goK]) | (refine TO.scall hP I_shape_all (el) ?_ rfl rfl rfl rfl ?_; (focus (simp; done)); refine TO.runsG hP (by simp [hg0, hg1, hg2, heq] <;> rfl) ?_; dsimp only [goK]) | (refine TO.scall hP I_shape_number (en) ?_ rfl rfl rfl rfl ?_; (focus (simp; done)); refine TO.runsG hP (by simp [hg0, hg1, hg2, heq] <;> rfl) ?_; dsimp only [goK]) | simp only [thenQ, blockQ, roundL, ↓reduceIte, Nat.reduceEqDiff, reduceCtorEq] | (refine TW.cond hP rfl (fun hc => ?_) (fun hc => ?_) <;> simp at hc) | (refine TW.ret ⟨.inr rfl, _, _, rfl, rfl, ?_⟩; dsimp only [tupOf])
  all_goals clear ea eb et el ef en e1 heq
  all_goals first | (refine ⟨(), rfl, ?_, hg0, hg1, hg2, ?_, ?_, ?_, ?_⟩ <;> first | (focus ((repeat' first | exact less_nil | refine less_cons (by simp) ?_); done)) | (focus (simp_all; done))) | (focus (simp_all [insF]; done))
 rintro _ g ⟨hg0, hg1, hg2, ha1, ha2, ha3, ha4⟩
 dsimp only [T_ins, T_sizes, T_has] at hg0 hg1 hg2
 rcases hbs with ⟨rfl, rfl, rfl, rfl, rfl, rfl⟩ | ⟨rfl, rfl, rfl, rfl, rfl, rfl⟩ | ⟨rfl, rfl, rfl, rfl, rfl, rfl⟩ | ⟨rfl, rfl, rfl, rfl, rfl, rfl⟩ | ⟨rfl, rfl, rfl, rfl, rfl, rfl⟩ | ⟨rfl, rfl, rfl, rfl, rfl, rfl⟩ | ⟨rfl, rfl, rfl, rfl, rfl, rfl⟩ | ⟨rfl, rfl, rfl, rfl, rfl, rfl⟩ | ⟨rfl, rfl, rfl, rfl, rfl, rfl⟩ | ⟨rfl, rfl, rfl, rfl, rfl, rfl⟩
 repeat' first | refine TW.seq ?_ | refine TW.skip ?_ | refine TW.condT hP rfl ?_ | refine TW.condF hP rfl ?_ | (refine TW.regG hP (by simp [hg0, hg1, hg2] <;> rfl) ?_; dsimp only [goK]) | (refine goK_guard (fun hb => ?_) (fun hb => ?_) <;> (try simp only [Bool.not_eq_eq_eq_not, Bool.not_true, Bool.not_false] at hb) <;> (refine goK_eq (by simp [hb, hg0, hg1, hg2] <;> rfl) ?_; dsimp only [goK])) | (refine TO.scall hP I_shape_below (et) ?_ rfl rfl rfl rfl ?_; (focus (simp; done)); refine TO.runsG hP (by simp [hg0, hg1, hg2] <;> rfl) ?_; dsimp only [goK]) | (refine TO.scall hP I_shape_all (ef) ?_ rfl rfl rfl rfl ?_; (focus (simp; done)); refine TO.runsG hP (by simp [hg0, hg1, hg2] <;> rfl) ?_; dsimp only [goK]) | simp only [thenQ, blockQ, roundL, ↓reduceIte, Nat.reduceEqDiff, reduceCtorEq] | (refine TW.ret ⟨.inr rfl, _, _, rfl, rfl, ?_⟩; dsimp only [tupOf])
 all_goals clear ea eb et el ef en e1 heq hg0 hg1 hg2
 all_goals first | (focus (simp_all [insF]; done)) | (focus (simp_all [insF]; omega)) | (focus (rw [AV.bool.injEq, Bool.eq_iff_iff]; simp_all [insF]; omega)) | (focus (rcases Nat.eq_zero_or_pos x.frm.list.length with hz | hz; (exfalso; simp only [decide_eq_true_eq, decide_eq_false_iff_not] at *; omega); (rw [insF, decide_eq_false (Nat.ne_of_gt hz)]; simp); done)) | (focus (rcases Nat.eq_zero_or_pos x.args.list.length with hz | hz; (exfalso; simp only [decide_eq_true_eq, decide_eq_false_iff_not] at *; omega); (rw [insF, decide_eq_false (Nat.ne_of_gt hz)]; simp); done))
theorem lower_uses (x : LIns) (k : Int) : lower3 (uses6 x) k = ((!hasA6 x.op || belowS x.a k) && ((!two6 x.op || belowS x.b k) && (!hasArgs6 x.op || thereS k x.args.list))) := by
 unfold uses6 lower3 belowS thereS
 rw [List.all_append, List.all_append]
 cases hasA6 x.op <;> cases two6 x.op <;> cases hasArgs6 x.op <;> simp
theorem thereS_nil {k : Int} {l : List Int} (h : l.length = 0) : thereS k l = true := by
 rw [List.eq_nil_of_length_eq_zero h]; rfl
theorem insF_eq (x : LIns) (z : LSizes) : insF (hasA6 x.op) (two6 x.op) (hasN6 x.op) (hasArgs6 x.op) (decide (x.op = 22)) (answers6 x.op) (numberS x z) x z = mayIns6 z.types z.funcs x z.regs z.blocks := by
 have h0 := thereS_nil (k := z.regs) (l := x.args.list)
 have h1 : (hasA6 x.op || (two6 x.op || (hasN6 x.op || (hasArgs6 x.op || (decide (x.op = 22) || answers6 x.op))))) = (decide (1 ≤ x.op) && decide (x.op ≤ 22)) := by
  rw [Bool.eq_iff_iff]
  simp [hasA6, two6, hasN6, hasArgs6, answers6]
  omega
 have h2 : (numberS x z && (hasN6 x.op || decide (x.n = 0))) = mayN6 z.funcs x := by
  rw [Bool.eq_iff_iff]
  unfold numberS mayN6 hasN6
  by_cases a1 : x.op = 1
  ·simp [a1]
  by_cases a2 : x.op = 3
  ·simp [a2]
  by_cases a3 : x.op = 18
  ·simp [a3]
  by_cases a4 : x.op = 14
  ·simp [a4]
  simp [a1, a2, a3, a4]
 have h3 : x.op = 22 → hasArgs6 x.op = true := fun h => by rw [h]; rfl
 unfold insF mayIns6 mayInsA mayInsB mayInsC mayInsD
 rw [h1, lower_uses, ← h2]
 rw [show lower3 x.frm.list z.blocks = thereS z.blocks x.frm.list from rfl]
 clear h1 h2
 generalize numberS x z = nu at *
 generalize hasN6 x.op = hn at *
 generalize hasA6 x.op = ha at *
 generalize two6 x.op = h2 at *
 generalize hasArgs6 x.op = hg at *
 generalize answers6 x.op = hs at *
 generalize thereS z.regs x.args.list = tr at *
 generalize thereS z.blocks x.frm.list = tb at *
 generalize x.args.list.length = na at *
 generalize x.frm.list.length = nf at *
 unfold belowS
 rw [Bool.eq_iff_iff]
 cases nu
 ·simp
 by_cases h22 : x.op = 22
 ·have hgt := h3 h22
  subst hgt
  simp only [h22, decide_true, if_true]
  cases hs <;> cases ha <;> cases h2 <;> cases hn <;> cases tr <;> cases tb <;> simp <;> omega
 ·simp only [h22, decide_false, if_false]
  cases hs <;> cases hg <;> cases ha <;> cases h2 <;> cases hn <;> cases tr <;> simp at h0 ⊢ <;> omega
theorem ins_pure (hP : POk Tryz.prog F gl K) (hG : gl NG_shape_table = .iptr [shapeCells] 0 0) (hE : K.eqT T_has = true) (x : LIns) (z : LSizes) (h0 : 0 ≤ x.op) (h1 : x.op < 256) (hal : x.args.list.length < 900000) (hfl : x.frm.list.length < 900000) : PureC Tryz.prog F N_shape_ins [.agg x.cells, .agg z.cells] (.bool (mayIns6 z.types z.funcs x z.regs z.blocks)) := by
  have e1 := of_pure hP hG x.op h0 h1
  have he := insF_eq x z
  obtain ⟨n, hn⟩ := Int.eq_ofNat_of_zero_le h0
  rw [← he]
  clear he
  by_cases h23 : n < 23
  · match n, hn, h23 with
    | 0, hn, _ =>
      have hn : x.op = 0 := hn
      rw [show hasS x.op = hasS 0 by rw [hn]] at e1
      have := ins_p0 hP hE x z e1 (by omega) (by omega)
      rw [hn]; exact this
    | 1, hn, _ =>
      have hn : x.op = 1 := hn
      rw [show hasS x.op = hasS 1 by rw [hn]] at e1
      have := ins_pA hP hE x z (by decide) e1 (by omega) (by omega)
      rw [hn]; exact this
    | 2, hn, _ =>
      have hn : x.op = 2 := hn
      rw [show hasS x.op = hasS 2 by rw [hn]] at e1
      have := ins_pA hP hE x z (by decide) e1 (by omega) (by omega)
      rw [hn]; exact this
    | 3, hn, _ =>
      have hn : x.op = 3 := hn
      rw [show hasS x.op = hasS 3 by rw [hn]] at e1
      have := ins_pA hP hE x z (by decide) e1 (by omega) (by omega)
      rw [hn]; exact this
    | 4, hn, _ =>
      have hn : x.op = 4 := hn
      rw [show hasS x.op = hasS 4 by rw [hn]] at e1
      have := ins_pA hP hE x z (by decide) e1 (by omega) (by omega)
      rw [hn]; exact this
    | 5, hn, _ =>
      have hn : x.op = 5 := hn
      rw [show hasS x.op = hasS 5 by rw [hn]] at e1
      have := ins_pA hP hE x z (by decide) e1 (by omega) (by omega)
      rw [hn]; exact this
    | 6, hn, _ =>
      have hn : x.op = 6 := hn
      rw [show hasS x.op = hasS 6 by rw [hn]] at e1
      have := ins_pA hP hE x z (by decide) e1 (by omega) (by omega)
      rw [hn]; exact this
    | 7, hn, _ =>
      have hn : x.op = 7 := hn
      rw [show hasS x.op = hasS 7 by rw [hn]] at e1
      have := ins_pA hP hE x z (by decide) e1 (by omega) (by omega)
      rw [hn]; exact this
    | 8, hn, _ =>
      have hn : x.op = 8 := hn
      rw [show hasS x.op = hasS 8 by rw [hn]] at e1
      have := ins_pA hP hE x z (by decide) e1 (by omega) (by omega)
      rw [hn]; exact this
    | 9, hn, _ =>
      have hn : x.op = 9 := hn
      rw [show hasS x.op = hasS 9 by rw [hn]] at e1
      have := ins_pA hP hE x z (by decide) e1 (by omega) (by omega)
      rw [hn]; exact this
    | 10, hn, _ =>
      have hn : x.op = 10 := hn
      rw [show hasS x.op = hasS 10 by rw [hn]] at e1
      have := ins_pA hP hE x z (by decide) e1 (by omega) (by omega)
      rw [hn]; exact this
    | 11, hn, _ =>
      have hn : x.op = 11 := hn
      rw [show hasS x.op = hasS 11 by rw [hn]] at e1
      have := ins_pA hP hE x z (by decide) e1 (by omega) (by omega)
      rw [hn]; exact this
    | 12, hn, _ =>
      have hn : x.op = 12 := hn
      rw [show hasS x.op = hasS 12 by rw [hn]] at e1
      have := ins_pA hP hE x z (by decide) e1 (by omega) (by omega)
      rw [hn]; exact this
    | 13, hn, _ =>
      have hn : x.op = 13 := hn
      rw [show hasS x.op = hasS 13 by rw [hn]] at e1
      have := ins_pA hP hE x z (by decide) e1 (by omega) (by omega)
      rw [hn]; exact this
    | 14, hn, _ =>
      have hn : x.op = 14 := hn
      rw [show hasS x.op = hasS 14 by rw [hn]] at e1
      have := ins_pA hP hE x z (by decide) e1 (by omega) (by omega)
      rw [hn]; exact this
    | 15, hn, _ =>
      have hn : x.op = 15 := hn
      rw [show hasS x.op = hasS 15 by rw [hn]] at e1
      have := ins_pA hP hE x z (by decide) e1 (by omega) (by omega)
      rw [hn]; exact this
    | 16, hn, _ =>
      have hn : x.op = 16 := hn
      rw [show hasS x.op = hasS 16 by rw [hn]] at e1
      have := ins_pA hP hE x z (by decide) e1 (by omega) (by omega)
      rw [hn]; exact this
    | 17, hn, _ =>
      have hn : x.op = 17 := hn
      rw [show hasS x.op = hasS 17 by rw [hn]] at e1
      have := ins_pA hP hE x z (by decide) e1 (by omega) (by omega)
      rw [hn]; exact this
    | 18, hn, _ =>
      have hn : x.op = 18 := hn
      rw [show hasS x.op = hasS 18 by rw [hn]] at e1
      have := ins_pA hP hE x z (by decide) e1 (by omega) (by omega)
      rw [hn]; exact this
    | 19, hn, _ =>
      have hn : x.op = 19 := hn
      rw [show hasS x.op = hasS 19 by rw [hn]] at e1
      have := ins_pA hP hE x z (by decide) e1 (by omega) (by omega)
      rw [hn]; exact this
    | 20, hn, _ =>
      have hn : x.op = 20 := hn
      rw [show hasS x.op = hasS 20 by rw [hn]] at e1
      have := ins_pA hP hE x z (by decide) e1 (by omega) (by omega)
      rw [hn]; exact this
    | 21, hn, _ =>
      have hn : x.op = 21 := hn
      rw [show hasS x.op = hasS 21 by rw [hn]] at e1
      have := ins_pA hP hE x z (by decide) e1 (by omega) (by omega)
      rw [hn]; exact this
    | 22, hn, _ =>
      have hn : x.op = 22 := hn
      rw [show hasS x.op = hasS 22 by rw [hn]] at e1
      have := ins_pA hP hE x z (by decide) e1 (by omega) (by omega)
      rw [hn]; exact this
    | n + 23, _, h => exact absurd h (by omega)
  · have ho := hasS_out (op := x.op) (by omega)
    rw [ho] at e1
    have := ins_p0 hP hE x z e1 (by omega) (by omega)
    simp only [hasS, List.cons.injEq, AV.bool.injEq] at ho
    rw [ho.1, ho.2.1, ho.2.2.1, ho.2.2.2.1, ho.2.2.2.2.1, ho.2.2.2.2.2.1]
    exact this
theorem eq_end (hE : K.eqT T_end = true) (x y : LEnd) : binOpA (Ctx.of Tryz.prog gl K) .eql T_end (.agg x.cells) (.agg y.cells) = some (.bool (sameEnd x y)) := by
 have h1 : (Ctx.of Tryz.prog gl K).eqT T_end = true := hE
 show (bif guardA (Ctx.of Tryz.prog gl K) T_end (.agg x.cells) (.agg y.cells) then (match eqA (Ctx.of Tryz.prog gl K) 100 T_end (.agg x.cells) (.agg y.cells) with | some b => some (AV.bool b) | none => none) else none) = _
 have h2 : guardA (Ctx.of Tryz.prog gl K) T_end (.agg x.cells) (.agg y.cells) = true := h1
 have h3 : eqA (Ctx.of Tryz.prog gl K) 100 T_end (.agg x.cells) (.agg y.cells) = some (sameEnd x y) := by
  dsimp only [T_end] at h1 ⊢
  by_cases e1 : x.kind = y.kind <;> by_cases e2 : x.a = y.a <;> by_cases e3 : x.to = y.to <;> by_cases e4 : x.els = y.els <;>
   simp [eqA, eqStep, eqFields, h1, sameEnd, e1, e2, e3, e4, kindEq, eqI_eq, LEnd.cells]
 rw [h2, h3]; rfl
theorem end_pure (hP : POk Tryz.prog F gl K) (hE : K.eqT T_end = true) (x : LEnd) (z : LSizes) : PureC Tryz.prog F N_shape_end [.agg x.cells, .agg z.cells] (.bool (mayEnd6 x z.regs z.blocks)) := by
 refine CallsT.pure (O := fun u _ => u = .bool (mayEnd6 x z.regs z.blocks)) (k := 1) (by simp) ?_ (fun u g e => by subst e; rfl)
 refine CallsT.body hP nix_sound E_shape_end rfl rfl ?_
 have q1 := eq_end (gl := gl) hE x ⟨x.kind, 0, x.to, 0⟩
 have q2 := eq_end (gl := gl) hE x ⟨x.kind, x.a, 0, 0⟩
 dsimp only [T_end, LEnd.cells] at q1 q2
 have ea := below_pure hP x.a z.regs
 have et := below_pure hP x.to z.blocks
 have ee := below_pure hP x.els z.blocks
 by_cases h1 : x.kind = 1
 ·rw [h1] at q1
  repeat' first | refine TW.seq ?_ | refine TW.block ?_ | refine TW.condT hP rfl ?_ | (refine TW.regG hP (by simp [h1, q1] <;> rfl) ?_; dsimp only [goK]) | (refine goK_guard (fun hb => ?_) (fun hb => ?_) <;> (try simp only [Bool.not_eq_eq_eq_not, Bool.not_true, Bool.not_false] at hb) <;> (refine goK_eq (by simp [hb] <;> rfl) ?_; dsimp only [goK])) | (refine TO.scall hP I_shape_below (et) ?_ rfl rfl rfl rfl ?_; (focus (simp; done)); refine TO.runsG hP (by simp <;> rfl) ?_; dsimp only [goK]) | simp only [thenQ] | (refine TW.ret ⟨.inr rfl, _, _, rfl, rfl, ?_⟩; dsimp only [tupOf])
  all_goals clear ea et ee
  all_goals (rw [AV.bool.injEq, Bool.eq_iff_iff]; simp_all [mayEnd6, sameEnd, lower3, belowS]; try omega)
 by_cases h2 : x.kind = 2
 ·repeat' first | refine TW.seq ?_ | refine TW.block ?_ | refine TW.condT hP rfl ?_ | refine TW.condF hP rfl ?_ | (refine TW.regG hP (by simp [h2] <;> rfl) ?_; dsimp only [goK]) | (refine goK_guard (fun hb => ?_) (fun hb => ?_) <;> (try simp only [Bool.not_eq_eq_eq_not, Bool.not_true, Bool.not_false] at hb) <;> (refine goK_eq (by simp [hb] <;> rfl) ?_; dsimp only [goK])) | (refine TO.scall hP I_shape_below (ea) ?_ rfl rfl rfl rfl ?_; (focus (simp; done)); refine TO.runsG hP (by simp <;> rfl) ?_; dsimp only [goK]) | (refine TO.scall hP I_shape_below (et) ?_ rfl rfl rfl rfl ?_; (focus (simp; done)); refine TO.runsG hP (by simp <;> rfl) ?_; dsimp only [goK]) | (refine TO.scall hP I_shape_below (ee) ?_ rfl rfl rfl rfl ?_; (focus (simp; done)); refine TO.runsG hP (by simp <;> rfl) ?_; dsimp only [goK]) | simp only [thenQ] | (refine TW.ret ⟨.inr rfl, _, _, rfl, rfl, ?_⟩; dsimp only [tupOf])
  all_goals clear ea et ee q1 q2
  all_goals (rw [AV.bool.injEq, Bool.eq_iff_iff]; simp_all [mayEnd6, lower3, belowS]; try omega)
 by_cases h3 : x.kind = 3
 ·rw [h3] at q2
  repeat' first | refine TW.seq ?_ | refine TW.block ?_ | refine TW.condT hP rfl ?_ | refine TW.condF hP rfl ?_ | (refine TW.regG hP (by simp [h3, q2] <;> rfl) ?_; dsimp only [goK]) | (refine goK_guard (fun hb => ?_) (fun hb => ?_) <;> (try simp only [Bool.not_eq_eq_eq_not, Bool.not_true, Bool.not_false] at hb) <;> (refine goK_eq (by simp [hb] <;> rfl) ?_; dsimp only [goK])) | (refine TO.scall hP I_shape_below (ea) ?_ rfl rfl rfl rfl ?_; (focus (simp; done)); refine TO.runsG hP (by simp <;> rfl) ?_; dsimp only [goK]) | simp only [thenQ] | (refine TW.ret ⟨.inr rfl, _, _, rfl, rfl, ?_⟩; dsimp only [tupOf])
  all_goals clear ea et ee
  all_goals (rw [AV.bool.injEq, Bool.eq_iff_iff]; simp_all [mayEnd6, sameEnd, lower3, belowS]; try omega)
 repeat' first | refine TW.seq ?_ | refine TW.block ?_ | refine TW.skip ?_ | refine TW.condF hP rfl ?_ | (refine TW.regG hP (by simp [h1, h2, h3] <;> rfl) ?_; dsimp only [goK]) | simp only [thenQ] | (refine TW.ret ⟨.inr rfl, _, _, rfl, rfl, ?_⟩; dsimp only [tupOf])
 all_goals clear ea et ee
 all_goals simp [mayEnd6, h1, h2, h3]
structure OpsOk (f : LFunc) : Prop where
 op : ∀ b ∈ f.blocks.list, ∀ x ∈ b.ins.list, 0 ≤ x.op ∧ x.op < 256
structure Env (F : Nat → Option Obj) (gl : Nat → AV) (K : Knob) : Prop where
 P : POk Tryz.prog F gl K
 G : gl NG_shape_table = .iptr [shapeCells] 0 0
 H : K.eqT T_has = true
 E : K.eqT T_end = true
 X : ∀ f a, K.ext f a = none
theorem fn1_qt (hV : Env F gl K) (x : LIns) (z : LSizes) (h : Hp) (r : Nat) (hr : h.get r = some (.cells T_sizes z.cells)) (hrn : r < h.nx) (h0 : 0 ≤ x.op ∧ x.op < 256) (hal : x.args.list.length < 900000) (hfl : x.frm.list.length < 900000) :
  Qt Tryz.prog F h (.bool (!mayIns6 z.types z.funcs x z.regs z.blocks)) N_shape_function_1 [.agg x.cells, .ptr r 0] := by
 have hP := hV.P
 refine CallsT.body hP nix_sound E_shape_function_1 rfl rfl ?_
 have e1 := ins_pure hP hV.G hV.H x z h0.1 h0.2 hal hfl
 dsimp only [T_sizes] at hr
 refine TW.seq (TW.regG hP (by simp <;> rfl) ?_)
 dsimp only [goK, thenQ, blockQ, roundL]
 refine TW.gen (fun g => g.get h.nx = some (.cells T_ins x.cells) ∧ g.get r = some (.cells T_sizes z.cells) ∧ Wid h g) ⟨by simp, by rw [get_new, if_neg (by omega)]; exact hr, (Wid.refl h).new _⟩ fun g hg => ?_
 obtain ⟨g1, g2, hw⟩ := hg
 dsimp only [T_ins, T_sizes] at g1 g2
 repeat' first | refine TW.seq ?_ | (refine TW.regG hP (by simp [g1, g2] <;> rfl) ?_; dsimp only [goK]) | (refine TO.scall hP I_shape_ins (e1) ?_ rfl rfl rfl rfl ?_; (focus (simp; done)); refine TO.runsG hP (by simp <;> rfl) ?_; dsimp only [goK]) | simp only [thenQ]
 refine TW.ret ⟨.inr rfl, g, _, rfl, rfl, ?_, hw⟩
 simp [tupOf]
theorem fn2_qt (hV : Env F gl K) (b : LBlock) (z : LSizes) (h : Hp) (r q : Nat) (hr : h.get r = some (.cells T_sizes z.cells)) (hrn : r < h.nx) (e : TypeId) (hq : h.get q = some (.cells e [.fn (.func N_shape_function_1) [] [.ptr r 0]])) (hqn : q < h.nx) (hil : b.ins.list.length < 1000000) (h0 : ∀ x ∈ b.ins.list, (0 ≤ x.op ∧ x.op < 256) ∧ x.args.list.length < 900000 ∧ x.frm.list.length < 900000) :
    Qt Tryz.prog F h (.bool (!(b.ins.list.all (fun x => mayIns6 z.types z.funcs x z.regs z.blocks) && mayEnd6 b.ed z.regs z.blocks))) N_shape_function_2 [.agg b.cells, .ptr q 0, .ptr r 0] := by
  have hP := hV.P
  refine CallsT.body hP nix_sound E_shape_function_2 rfl rfl ?_
  have e1 := end_pure hP hV.E b.ed z
  dsimp only [T_sizes] at hr
  refine TW.seq (TW.regG hP (by simp <;> rfl) ?_)
  dsimp only [goK, thenQ, blockQ, roundL]
  refine TW.gen (fun g => g.get h.nx = some (.cells T_block b.cells) ∧ g.get r = some (.cells T_sizes z.cells) ∧ g.get q = some (.cells e [.fn (.func N_shape_function_1) [] [.ptr r 0]]) ∧ Wid h g ∧ h.nx < g.nx) ⟨by simp, by rw [get_new, if_neg (by omega)]; exact hr, by rw [get_new, if_neg (by omega)]; exact hq, (Wid.refl h).new _, by simp⟩ fun g hg => ?_
  obtain ⟨g1, g2, g3, hw, hwn⟩ := hg
  dsimp only [T_block, T_sizes, LBlock.cells, LEnd.cells] at g1 g2
  have e2 := ContainsFunc_inss hP b.ins N_shape_function_1 [.ptr r 0] (fun x => !mayIns6 z.types z.funcs x z.regs z.blocks) I_shape_function_1 g hil (fun x hx h' hw' => fn1_qt hV x z h' r (hw'.at g2 (by omega)) (by have := hw'.nx; omega) (h0 x hx).1 (h0 x hx).2.1 (h0 x hx).2.2)
  have hall : b.ins.list.any (fun x => !mayIns6 z.types z.funcs x z.regs z.blocks) = !b.ins.list.all (fun x => mayIns6 z.types z.funcs x z.regs z.blocks) := by
    rw [List.not_all_eq_any_not]
  rw [hall] at e2
  repeat' first | refine TW.seq ?_ | (refine TW.regG hP (by simp [g1, g3] <;> rfl) ?_; dsimp only [goK])
  cases hA : b.ins.list.all (fun x => mayIns6 z.types z.funcs x z.regs z.blocks) with
  | true =>
    rw [hA] at e2
    refine TO.qcall hP I_slices_ContainsFunc_api_Ins_api_Ins e2 (by simp) rfl rfl rfl rfl fun k hk => ?_
    have k1 := hk.at g1 (by omega)
    have k2 := hk.at g2 (by omega)
    refine TO.runsG hP (by simp [k1, k2] <;> rfl) ?_
    dsimp only [goK]
    repeat' first | (refine TO.scall hP I_shape_end (e1) ?_ rfl rfl rfl rfl ?_; (focus (simp; done)); refine TO.runsG hP (by simp <;> rfl) ?_; dsimp only [goK]) | simp only [thenQ]
    refine TW.ret ⟨.inr rfl, k, _, rfl, rfl, ?_, hw.trans hk⟩
    simp [tupOf]
  | false =>
    rw [hA] at e2
    refine TO.qcall hP I_slices_ContainsFunc_api_Ins_api_Ins (e2) (by simp) rfl rfl rfl rfl fun k hk => ?_
    refine TO.runsG hP (by simp <;> rfl) ?_
    try dsimp only [goK]
    repeat' first | simp only [thenQ]
    refine TW.ret ⟨.inr rfl, k, _, rfl, rfl, ?_, hw.trans hk⟩
    simp [tupOf]
theorem av_both {α : Type} {e : α → List AV} (x : Sl α) : (x.av e = .nilsl ∧ x.list.length = 0) ∨ x.av e = .isl (x.list.map e) := by cases x <;> simp [Sl.av, Sl.list]
theorem function_pure (hV : Env F gl K) (p : LProg) (f : LFunc) (hs : SmallF f) (ho : OpsOk f) (hp : ∀ x ∈ p.types.list, x.parts.list.length < 900000) : PureC Tryz.prog F N_shape_function [.agg p.cells, .agg f.cells] (.bool (mayFunc6 p f)) := by
  have hP := hV.P
  have hX := hV.X
  have hnb := hs.nb
  have hsm := hs.many
  have e1 := many_pure hP f hs
  have ea := below_pure hP f.sig p.types.list.length
  have eb := below_pure hP (f.blocks.list.length - 1) 16
  have hw1 := w64e (n := (f.blocks.list.length : Int) - 1) (by omega) (by omega)
  refine CallsT.pure (O := fun u _ => u = .bool (mayFunc6 p f)) (k := 1) (by simp) ?_ (fun u g e => by subst e; rfl)
  refine CallsT.body hP nix_sound E_shape_function rfl rfl ?_
  refine TW.seq (TW.regG hP (by simp <;> rfl) ?_)
  dsimp only [goK, thenQ, blockQ, roundL]
  refine TW.gen (fun g => g.get 0 = some (.cells T_prog p.cells) ∧ g.get 1 = some (.cells T_func f.cells) ∧ g.nx = 2) ⟨by simp, by simp, by simp⟩ fun g hgg => ?_
  obtain ⟨hg0, hg1, hnx⟩ := hgg
  dsimp only [T_func, T_prog] at hg0 hg1
  refine TW.join (fun _ : Unit => [(2, .ptr 0 0), (3, .ptr 1 0)]) (fun _ g => g.get 0 = some (.cells T_prog p.cells) ∧ g.get 1 = some (.cells T_func f.cells) ∧ g.nx = 2 ∧ mayFuncA p f = false) ?_ ?_
  · by_cases h0 : 0 ≤ f.sig
    · obtain ⟨n, hn⟩ := Int.eq_ofNat_of_zero_le h0
      by_cases h1 : n < p.types.list.length
      · obtain ⟨x, hx⟩ := get_of_lt h1
        have hav := av_pos (e := LType.cells) (show 0 < p.types.list.length by omega)
        have hk : sigKind p f = x.kind := by simp [sigKind, hn, hx]
        have hnl : ¬ (p.types.list.length : Int) ≤ f.sig := by omega
        have h01 : ¬ f.sig < 0 := by omega
        have ha : belowS f.sig p.types.list.length = true := by simp [belowS]; omega
        rw [ha, hn] at ea
        have e1' := e1
        dsimp only [LFunc.cells] at e1'
        rw [hn] at e1'
        cases hb16 : belowS (f.blocks.list.length - 1) 16 with
        | true =>
          rw [hb16] at eb
          simp [belowS] at hb16
          repeat' first | refine TW.seq ?_ | refine TW.skip ?_ | refine TW.condT hP rfl ?_ | (refine TW.regG hP (by simp [hg0, hg1, hn, hav] <;> rfl) ?_; dsimp only [goK]) | (refine goK_guard (fun hb => ?_) (fun hb => ?_) <;> (try simp only [Bool.not_eq_eq_eq_not, Bool.not_true, Bool.not_false] at hb) <;> (refine goK_eq (by simp [hb, hg1, hn, hw1] <;> rfl) ?_; dsimp only [goK])) | (refine TO.scall hP I_shape_below (ea) ?_ rfl rfl rfl rfl ?_; (focus (simp; done)); refine TO.runsG hP (by simp [hg0, hg1, hn, hx, hav] <;> rfl) ?_; dsimp only [goK]) | (refine TO.scall hP I_shape_below (eb) ?_ rfl rfl rfl rfl ?_; (focus (simp; done)); refine TO.runsG hP (by simp [hg1, hn] <;> rfl) ?_; dsimp only [goK]) | (refine TO.scall hP I_shape_many (e1') ?_ rfl rfl rfl rfl ?_; (focus (simp; done)); refine TO.runsG hP (by simp <;> rfl) ?_; dsimp only [goK]) | simp only [thenQ] | (refine TW.cond hP rfl (fun hc => ?_) (fun hc => ?_) <;> simp at hc) | (refine TW.ret ⟨.inr rfl, _, _, rfl, rfl, ?_⟩; dsimp only [tupOf])
          all_goals clear e1 e1' ea eb hw1
          all_goals simp only [decide_eq_true_eq, decide_eq_false_iff_not] at *
          all_goals first | (refine ⟨(), rfl, ?_, hg0, hg1, hnx, ?_⟩ <;> first | (focus ((repeat' first | exact less_nil | refine less_cons (by simp) ?_); done)) | (focus (simp_all [mayFuncA]; omega))) | (focus (simp_all [mayFunc6, mayFuncA]; done))
        | false =>
          rw [hb16] at eb
          simp [belowS] at hb16
          repeat' first | refine TW.seq ?_ | refine TW.condT hP rfl ?_ | (refine TW.regG hP (by simp [hg0, hg1, hn, hav] <;> rfl) ?_; dsimp only [goK]) | (refine goK_guard (fun hb => ?_) (fun hb => ?_) <;> (try simp only [Bool.not_eq_eq_eq_not, Bool.not_true, Bool.not_false] at hb) <;> (refine goK_eq (by simp [hb, hg1, hn, hw1] <;> rfl) ?_; dsimp only [goK])) | (refine TO.scall hP I_shape_below (ea) ?_ rfl rfl rfl rfl ?_; (focus (simp; done)); refine TO.runsG hP (by simp [hg0, hg1, hn, hx, hav] <;> rfl) ?_; dsimp only [goK]) | (refine TO.scall hP I_shape_below (eb) ?_ rfl rfl rfl rfl ?_; (focus (simp; done)); refine TO.runsG hP (by simp <;> rfl) ?_; dsimp only [goK]) | simp only [thenQ] | (refine TW.ret ⟨.inr rfl, _, _, rfl, rfl, ?_⟩; dsimp only [tupOf])
          all_goals clear e1 e1' ea eb
          all_goals (rw [AV.bool.injEq, eq_comm, mayFunc6, Bool.and_eq_false_iff]; left; rw [Bool.not_eq_false']; simp [mayFuncA]; omega)
      · have hnl : (p.types.list.length : Int) ≤ f.sig := by omega
        have ha : belowS f.sig p.types.list.length = false := by simp [belowS]; omega
        rw [ha] at ea
        have h01 : ¬ f.sig < 0 := by omega
        repeat' first | refine TW.seq ?_ | refine TW.condT hP rfl ?_ | (refine TW.regG hP (by simp [hg0, hg1] <;> rfl) ?_; dsimp only [goK]) | (refine TO.scall hP I_shape_below (ea) ?_ rfl rfl rfl rfl ?_; (focus (simp; done)); refine TO.runsG hP (by simp <;> rfl) ?_; dsimp only [goK]) | simp only [thenQ] | (refine TW.ret ⟨.inr rfl, _, _, rfl, rfl, ?_⟩; dsimp only [tupOf])
        all_goals simp [mayFunc6, mayFuncA, hnl]
    · have h01 : f.sig < 0 := by omega
      have ha : belowS f.sig p.types.list.length = false := by simp [belowS]; omega
      rw [ha] at ea
      repeat' first | refine TW.seq ?_ | refine TW.condT hP rfl ?_ | (refine TW.regG hP (by simp [hg0, hg1] <;> rfl) ?_; dsimp only [goK]) | (refine TO.scall hP I_shape_below (ea) ?_ rfl rfl rfl rfl ?_; (focus (simp; done)); refine TO.runsG hP (by simp <;> rfl) ?_; dsimp only [goK]) | simp only [thenQ] | (refine TW.ret ⟨.inr rfl, _, _, rfl, rfl, ?_⟩; dsimp only [tupOf])
      all_goals simp [mayFunc6, mayFuncA, h01]
  rintro _ g ⟨hg0, hg1, hnx, hA⟩
  dsimp only [T_func, T_prog] at hg0 hg1
  have hA' := hA
  simp only [mayFuncA, Bool.or_eq_false_iff, decide_eq_false_iff_not, Bool.not_eq_false', decide_eq_true_eq] at hA'
  obtain ⟨a1, a2, a3, a4, a5, a6⟩ := hA'
  have hpos := many6_nonneg f.blocks.list
  have hsp : 0 ≤ sigParts p f ∧ sigParts p f < 900000 := by
    unfold sigParts
    cases hx : p.types.list[f.sig.toNat]? with
    | none => simp
    | some x => have := hp x (List.mem_of_getElem? hx); simp; omega
  obtain ⟨n, hn⟩ := Int.eq_ofNat_of_zero_le (show 0 ≤ f.sig by omega)
  have h1 : n < p.types.list.length := by omega
  obtain ⟨x, hx⟩ := get_of_lt h1
  have hav := av_pos (e := LType.cells) (show 0 < p.types.list.length by omega)
  have hr : sigParts p f = x.parts.list.length := by simp [sigParts, hn, hx]
  have hreg : regs6 p f = x.parts.list.length + many6 f.blocks.list := by rw [regs6, hr]
  have hwm := w64e (n := many6 f.blocks.list) (by omega) (by omega)
  have hw := w64e (n := (x.parts.list.length : Int) + many6 f.blocks.list) (by omega) (by omega)
  have hav2 := av_pos (e := LBlock.cells) (show 0 < f.blocks.list.length by omega)
  let z : LSizes := ⟨p.types.list.length, p.funcs.list.length, regs6 p f, f.blocks.list.length⟩
  refine TW.join (fun _ : Unit => [(3, .ptr 1 0), (5, .ptr 2 0)]) (fun _ g => g.get 1 = some (.cells T_func f.cells) ∧ g.get 2 = some (.cells T_sizes z.cells) ∧ g.nx = 3) ?_ ?_
  · have hfa := av_both (e := LFunc.cells) p.funcs
    have hpa := av_both (e := cI) x.parts
    rcases hfa with ⟨hfa, hfl⟩ | hfa <;> rcases hpa with ⟨hpa, hpl⟩ | hpa
    · try refine TW.seq ?_
      refine TW.drawH hP [(N_shape_many, [.agg f.cells], .int .i64 (many6 f.blocks.list))] (fun e he => by rcases List.mem_cons.1 he with rfl | he; exact e1; cases he) [0, 1, 3, 0, 8, 24, 0, 64, 0, 256, 960, 1984, 4032, 8128, 0, 16384, 65472, 0, 131072, 393216, 1048575, 0, 4194303] (by kernel_rfl) (by kernel_rfl) (by simp [hX, hg0, hg1, hn, hx, hav, hav2, hfa, hpa, (show ¬ g.nx ≤ 0 by omega), (show ¬ g.nx ≤ 1 by omega), N_shape_many, G_shape_many, B_shape_many, oneD, fpAt, fpOf, refOf, ldOf, fpNext, clashFree, FP.clash, FP.hard, FP.soft, overlap, inR, inMask, sameO, Nat.testBit] <;> rfl) ?_
      repeat' (refine okD_guard (fun hb => ?_) (fun hb => ?_) <;> (try simp only [Bool.not_eq_eq_eq_not, Bool.not_true, Bool.not_false] at hb) <;> refine okD_eq (by simp [hb, hX, hg0, hg1, hn, decide_eq_true h1, hx, hav, hav2, hfa, hpa, hw, (show ¬ g.nx ≤ 0 by omega), (show ¬ g.nx ≤ 1 by omega), N_shape_many, G_shape_many, B_shape_many, oneD, fpAt, fpOf, refOf, ldOf, fpNext, clashFree, FP.clash, FP.hard, FP.soft, overlap, inR, inMask, sameO, Nat.testBit, show ¬ g.nx + 1 ≤ g.nx by omega, show ¬ g.nx + 2 ≤ g.nx by omega, show ¬ g.nx + 2 ≤ g.nx + 1 by omega, show ¬ g.nx + 3 ≤ g.nx by omega, show ¬ g.nx + 3 ≤ g.nx + 1 by omega, show ¬ g.nx + 3 ≤ g.nx + 2 by omega] <;> rfl) ?_)
      all_goals dsimp only [okD, thenQ]
      refine ⟨(), rfl, ?_, ?_, ?_, ?_⟩
      · repeat' first | exact less_nil | refine less_cons (by simp [hnx]) ?_
      · simp [hnx]; exact hg1
      · simp [hnx, z, hreg, hfl, hpl, hwm]
      · simp [hnx]
    · try refine TW.seq ?_
      refine TW.drawH hP [(N_shape_many, [.agg f.cells], .int .i64 (many6 f.blocks.list))] (fun e he => by rcases List.mem_cons.1 he with rfl | he; exact e1; cases he) [0, 1, 3, 0, 8, 24, 0, 64, 0, 256, 960, 1984, 4032, 8128, 0, 16384, 65472, 0, 131072, 393216, 1048575, 0, 4194303] (by kernel_rfl) (by kernel_rfl) (by simp [hX, hg0, hg1, hn, hx, hav, hav2, hfa, hpa, hw, (show ¬ g.nx ≤ 0 by omega), (show ¬ g.nx ≤ 1 by omega), N_shape_many, G_shape_many, B_shape_many, oneD, fpAt, fpOf, refOf, ldOf, fpNext, clashFree, FP.clash, FP.hard, FP.soft, overlap, inR, inMask, sameO, Nat.testBit] <;> rfl) ?_
      repeat' (refine okD_guard (fun hb => ?_) (fun hb => ?_) <;> (try simp only [Bool.not_eq_eq_eq_not, Bool.not_true, Bool.not_false] at hb) <;> refine okD_eq (by simp [hb, hX, hg0, hg1, hn, decide_eq_true h1, hx, hav, hav2, hfa, hpa, hw, (show ¬ g.nx ≤ 0 by omega), (show ¬ g.nx ≤ 1 by omega), N_shape_many, G_shape_many, B_shape_many, oneD, fpAt, fpOf, refOf, ldOf, fpNext, clashFree, FP.clash, FP.hard, FP.soft, overlap, inR, inMask, sameO, Nat.testBit, show ¬ g.nx + 1 ≤ g.nx by omega, show ¬ g.nx + 2 ≤ g.nx by omega, show ¬ g.nx + 2 ≤ g.nx + 1 by omega, show ¬ g.nx + 3 ≤ g.nx by omega, show ¬ g.nx + 3 ≤ g.nx + 1 by omega, show ¬ g.nx + 3 ≤ g.nx + 2 by omega] <;> rfl) ?_)
      all_goals dsimp only [okD, thenQ]
      refine ⟨(), rfl, ?_, ?_, ?_, ?_⟩
      · repeat' first | exact less_nil | refine less_cons (by simp [hnx]) ?_
      · simp [hnx]; exact hg1
      · simp [hnx, z, hreg, hfl]
      · simp [hnx]
    · try refine TW.seq ?_
      refine TW.drawH hP [(N_shape_many, [.agg f.cells], .int .i64 (many6 f.blocks.list))] (fun e he => by rcases List.mem_cons.1 he with rfl | he; exact e1; cases he) [0, 1, 3, 0, 8, 24, 0, 64, 0, 256, 960, 1984, 4032, 8128, 0, 16384, 65472, 0, 131072, 393216, 1048575, 0, 4194303] (by kernel_rfl) (by kernel_rfl) (by simp [hX, hg0, hg1, hn, hx, hav, hav2, hfa, hpa, (show ¬ g.nx ≤ 0 by omega), (show ¬ g.nx ≤ 1 by omega), N_shape_many, G_shape_many, B_shape_many, oneD, fpAt, fpOf, refOf, ldOf, fpNext, clashFree, FP.clash, FP.hard, FP.soft, overlap, inR, inMask, sameO, Nat.testBit] <;> rfl) ?_
      repeat' (refine okD_guard (fun hb => ?_) (fun hb => ?_) <;> (try simp only [Bool.not_eq_eq_eq_not, Bool.not_true, Bool.not_false] at hb) <;> refine okD_eq (by simp [hb, hX, hg0, hg1, hn, decide_eq_true h1, hx, hav, hav2, hfa, hpa, hw, (show ¬ g.nx ≤ 0 by omega), (show ¬ g.nx ≤ 1 by omega), N_shape_many, G_shape_many, B_shape_many, oneD, fpAt, fpOf, refOf, ldOf, fpNext, clashFree, FP.clash, FP.hard, FP.soft, overlap, inR, inMask, sameO, Nat.testBit, show ¬ g.nx + 1 ≤ g.nx by omega, show ¬ g.nx + 2 ≤ g.nx by omega, show ¬ g.nx + 2 ≤ g.nx + 1 by omega, show ¬ g.nx + 3 ≤ g.nx by omega, show ¬ g.nx + 3 ≤ g.nx + 1 by omega, show ¬ g.nx + 3 ≤ g.nx + 2 by omega] <;> rfl) ?_)
      all_goals dsimp only [okD, thenQ]
      refine ⟨(), rfl, ?_, ?_, ?_, ?_⟩
      · repeat' first | exact less_nil | refine less_cons (by simp [hnx]) ?_
      · simp [hnx]; exact hg1
      · simp [hnx, z, hreg, hpl, hwm]
      · simp [hnx]
    · try refine TW.seq ?_
      refine TW.drawH hP [(N_shape_many, [.agg f.cells], .int .i64 (many6 f.blocks.list))] (fun e he => by rcases List.mem_cons.1 he with rfl | he; exact e1; cases he) [0, 1, 3, 0, 8, 24, 0, 64, 0, 256, 960, 1984, 4032, 8128, 0, 16384, 65472, 0, 131072, 393216, 1048575, 0, 4194303] (by kernel_rfl) (by kernel_rfl) (by simp [hX, hg0, hg1, hn, hx, hav, hav2, hfa, hpa, hw, (show ¬ g.nx ≤ 0 by omega), (show ¬ g.nx ≤ 1 by omega), N_shape_many, G_shape_many, B_shape_many, oneD, fpAt, fpOf, refOf, ldOf, fpNext, clashFree, FP.clash, FP.hard, FP.soft, overlap, inR, inMask, sameO, Nat.testBit] <;> rfl) ?_
      repeat' (refine okD_guard (fun hb => ?_) (fun hb => ?_) <;> (try simp only [Bool.not_eq_eq_eq_not, Bool.not_true, Bool.not_false] at hb) <;> refine okD_eq (by simp [hb, hX, hg0, hg1, hn, decide_eq_true h1, hx, hav, hav2, hfa, hpa, hw, (show ¬ g.nx ≤ 0 by omega), (show ¬ g.nx ≤ 1 by omega), N_shape_many, G_shape_many, B_shape_many, oneD, fpAt, fpOf, refOf, ldOf, fpNext, clashFree, FP.clash, FP.hard, FP.soft, overlap, inR, inMask, sameO, Nat.testBit, show ¬ g.nx + 1 ≤ g.nx by omega, show ¬ g.nx + 2 ≤ g.nx by omega, show ¬ g.nx + 2 ≤ g.nx + 1 by omega, show ¬ g.nx + 3 ≤ g.nx by omega, show ¬ g.nx + 3 ≤ g.nx + 1 by omega, show ¬ g.nx + 3 ≤ g.nx + 2 by omega] <;> rfl) ?_)
      all_goals dsimp only [okD, thenQ]
      refine ⟨(), rfl, ?_, ?_, ?_, ?_⟩
      · repeat' first | exact less_nil | refine less_cons (by simp [hnx]) ?_
      · simp [hnx]; exact hg1
      · simp [hnx, z, hreg]
      · simp [hnx]
  rintro _ g ⟨hg1, hg2, hnx⟩
  dsimp only [T_func, T_sizes] at hg1 hg2
  refine TW.seq (TW.regG hP (by simp <;> rfl) ?_)
  dsimp only [goK, thenQ, blockQ, roundL]
  rw [hnx]
  refine TW.gen (fun h => h.get 1 = some (.cells T_func f.cells) ∧ h.get 2 = some (.cells T_sizes z.cells) ∧ h.get 3 = some (.cells 126 [.fn (.func N_shape_function_1) [] [.ptr 2 0]]) ∧ h.nx = 4) ⟨by simp [hnx]; exact hg1, by simp [hnx]; exact hg2, by simp, by simp [hnx]⟩ fun h hh => ?_
  obtain ⟨k1, k2, k3, kn⟩ := hh
  dsimp only [T_func] at k1
  have hil : ∀ b ∈ f.blocks.list, b.ins.list.length < 1000000 := fun b hb => by
    obtain ⟨i, hi⟩ := List.mem_iff_getElem?.1 hb
    have q1 := many6_take hi
    have q2 := many6_le f.blocks.list (i + 1)
    have q3 := many6_nonneg (f.blocks.list.take i)
    omega
  have e2 := ContainsFunc_blocks hP f.blocks N_shape_function_2 [.ptr 3 0, .ptr 2 0] (fun b => !(b.ins.list.all (fun x => mayIns6 z.types z.funcs x z.regs z.blocks) && mayEnd6 b.ed z.regs z.blocks)) I_shape_function_2 h (by omega) (fun b hb h' hw' => fn2_qt hV b z h' 2 3 (hw'.at k2 (by omega)) (by have := hw'.nx; omega) 126 (hw'.at k3 (by omega)) (by have := hw'.nx; omega) (hil b hb) (fun x hx => ⟨ho.op b hb x hx, hs.args b hb x hx, hs.frm b hb x hx⟩))
  refine TW.seq (TW.regG hP (by simp [k1] <;> rfl) ?_)
  dsimp only [goK, thenQ, blockQ, roundL]
  refine TO.qcall hP I_slices_ContainsFunc_api_Block_api_Block e2 (by simp) rfl rfl rfl rfl fun k hk => ?_
  refine TO.runsG hP (by simp <;> rfl) ?_
  try dsimp only [goK]
  repeat' first | simp only [thenQ] | (refine TW.ret ⟨.inr rfl, _, _, rfl, rfl, ?_⟩; dsimp only [tupOf])
  have hall : f.blocks.list.any (fun b => !b.ins.list.all (fun x => mayIns6 z.types z.funcs x z.regs z.blocks) || !mayEnd6 b.ed z.regs z.blocks) = !f.blocks.list.all (mayBlock6 p f) := by
    rw [List.not_all_eq_any_not]
    congr 1
    funext b
    simp [mayBlock6, z]
  rw [hall, mayFunc6, hA]
  simp
end Go.Ax
set_option maxRecDepth 20000
noncomputable section
namespace Go.Ax
open Go.Proofs
def szs (t : List LType) (k : Nat) : List Int := (List.range k).map (fun j => ((ofS t j).length : Int))
theorem szs_get {t : List LType} {k j : Nat} (h : j < k) : (szs t k).getD j 0 = (ofS t j).length := by
 simp [szs, List.getD_eq_getElem?_getD, h]
theorem szs_len {t : List LType} {k : Nat} : (szs t k).length = k := by simp [szs]
theorem szs_succ {t : List LType} {k : Nat} : szs t (k + 1) = szs t k ++ [((ofS t k).length : Int)] := by simp [szs, List.range_succ]
theorem mayT3_type {t : List LType} {k : Nat} (h : mayT3 t k = true) : mayType3 t k = true := by
 simp only [mayT3, Bool.and_eq_true] at h; exact h.1
theorem ofS_of {t : List LType} {k : Nat} {x : LType} (hx : t[k]? = some x) : ofS t k = if x.kind = 4 then x.parts.list.flatMap (fun p => ofN t k p.toNat) else if x.kind = 5 then (List.replicate x.many.toNat (ofN t k x.elem.toNat)).flatten else [(k : Int)] := ofN_succ hx
theorem ofN_S {t : List LType} {k j : Nat} (hall : ∀ j < k, mayT3 t j = true) (h : j < k) : ofN t k j = ofS t j :=
 ofN_eq (fun i hi => mayT3_type (hall i (by omega))) h (Nat.lt_succ_self _)
theorem sum_parts {t : List LType} {k : Nat} (hall : ∀ j < k, mayT3 t j = true) : ∀ (l : List Int), lower3 l k = true →
    sumN (l.map fun n => (szs t k).getD n.toNat 0) = ((l.flatMap (fun p => ofN t k p.toNat)).length : Int)
  | [], _ => rfl
  | a :: l, h => by
    simp only [lower3, List.all_cons, Bool.and_eq_true, decide_eq_true_eq] at h
    have h2 := sum_parts hall l h.2
    have ha : a.toNat < k := by omega
    simp only [List.map_cons, sumN, List.flatMap_cons, List.length_append, Int.natCast_add]
    rw [h2, szs_get ha, ofN_S hall ha]
theorem len_rep {α : Type} (n : Nat) (l : List α) : (List.replicate n l).flatten.length = n * l.length := by
 simp [List.length_flatten]
theorem plain3_eq {t : List LType} {n : Int} : plain3 t n = (decide (0 ≤ n) && decide (n < t.length) && scAt t n) := by
 rw [Bool.eq_iff_iff]
 by_cases h : 0 ≤ n ∧ n < t.length
 ·obtain ⟨x, hx⟩ := get_of_lt (show n.toNat < t.length by omega)
  simp only [plain3, kindAt, scAt, hx, scalarS, Bool.and_eq_true, Bool.or_eq_true, decide_eq_true_eq]
  omega
 ·simp only [plain3, Bool.and_eq_true, decide_eq_true_eq]
  constructor
  ·rintro ⟨h1, h2, h3⟩; exact absurd ⟨h1, h2⟩ h
  ·rintro ⟨⟨h1, h2⟩, h3⟩; exact absurd ⟨h1, h2⟩ h
theorem mayFn3_eq {t : List LType} {x : LType} : mayFn3 t x = (decide (x.many = 0) && (decide (x.parts.list.length ≤ 4) && (thereS t.length (x.elem :: x.parts.list) && (x.elem :: x.parts.list).all (scAt t)))) := by
 have h1 : x.parts.list.all (plain3 t) = (thereS t.length x.parts.list && x.parts.list.all (scAt t)) := by
  rw [Bool.eq_iff_iff]
  simp only [thereS, List.all_eq_true, plain3_eq, Bool.and_eq_true]
  exact ⟨fun h => ⟨fun y hy => (h y hy).1, fun y hy => (h y hy).2⟩, fun h y hy => ⟨h.1 y hy, h.2 y hy⟩⟩
 rw [Bool.eq_iff_iff]
 simp only [mayFn3, h1, plain3_eq, thereS, List.all_cons, Bool.and_eq_true, decide_eq_true_eq]
 constructor
 ·rintro ⟨⟨a1, a2⟩, ⟨⟨b1, b2⟩, b3⟩, c1, c2⟩; exact ⟨c2, by omega, ⟨⟨b1, b2⟩, a1⟩, b3, a2⟩
 ·rintro ⟨c2, c1, ⟨⟨b1, b2⟩, a1⟩, b3, a2⟩; exact ⟨⟨a1, a2⟩, ⟨⟨b1, b2⟩, b3⟩, by omega, c2⟩
theorem mayS_eq {t : List LType} {k : Nat} {x : LType} (hx : t[k]? = some x) (hall : ∀ j < k, mayT3 t j = true) : (mayS t k (szs t k)).2 = mayT3 t k ∧ (mayT3 t k = true → (mayS t k (szs t k)).1 = (ofS t k).length) := by
 have ho := ofS_of hx
 by_cases h1 : x.kind = 1
 ·have hl : (ofS t k).length = 1 := by rw [ho]; simp [h1]
  simp [mayS, mayT3, mayType3, hx, h1, hl, plainS]
 by_cases h2 : x.kind = 2
 ·have hl : (ofS t k).length = 1 := by rw [ho]; simp [h2]
  simp [mayS, mayT3, mayType3, hx, h2, hl, plainS, thereS]
  rw [Bool.eq_iff_iff]; simp
  constructor
  ·rintro ⟨⟨a1, a2⟩, a3, a4⟩; exact ⟨a3, a4, a1, a2⟩
  ·rintro ⟨a3, a4, a1, a2⟩; exact ⟨⟨a1, a2⟩, a3, a4⟩
 by_cases h3 : x.kind = 3
 ·have hl : (ofS t k).length = 1 := by rw [ho]; simp [h3]
  simp only [mayS, mayT3, mayType3, hx, h3, hl, plainS, mayFn3_eq]
  simp
 by_cases h4 : x.kind = 4
 ·have ho' : ofS t k = x.parts.list.flatMap (fun p => ofN t k p.toNat) := by rw [ho, if_pos h4]
  by_cases hl : lower3 x.parts.list k = true
  ·have hs := sum_parts hall x.parts.list hl
   rw [← ho'] at hs
   have ht : thereS k x.parts.list = true := hl
   simp only [mayS, mayT3, mayType3, hx, h4, plainS, hs, hl, ht]
   by_cases he : x.elem = 0 <;> by_cases hm : x.many = 0 <;> simp [he, hm]
   rw [Bool.eq_iff_iff]; simp; omega
  ·have ht : thereS k x.parts.list = false := Bool.eq_false_iff.2 hl
   have hl' : lower3 x.parts.list k = false := by simpa using hl
   simp [mayS, mayT3, mayType3, hx, h4, plainS, hl', ht]
 by_cases h5 : x.kind = 5
 ·have ho' : ofS t k = (List.replicate x.many.toNat (ofN t k x.elem.toNat)).flatten := by rw [ho, if_neg h4, if_pos h5]
  by_cases hl : (0 ≤ x.elem ∧ x.elem < k) ∧ 1 ≤ x.many ∧ x.many ≤ 16
  ·have he : x.elem.toNat < k := by omega
   have hlen : ((ofS t k).length : Int) = x.many * (ofS t x.elem.toNat).length := by
    rw [ho', len_rep, ofN_S hall he, Int.natCast_mul, Int.toNat_of_nonneg (by omega)]
   simp only [mayS, mayT3, mayType3, hx, h5, plainS, szs_get he, thereS]
   rw [← hlen]
   simp [hl.1.1, hl.1.2, hl.2.1, hl.2.2]
   by_cases hp : x.parts.list = [] <;> simp [hp]
   omega
  ·have q : mayT3 t k = false := by
    simp only [mayT3, mayType3, hx, h5]
    simp
    intros; omega
   rw [q]
   have c : (thereS k [x.elem] && (decide (1 ≤ x.many) && decide (x.many ≤ 16))) = false := by
    rw [Bool.eq_false_iff]
    intro h
    simp [thereS] at h
    exact hl ⟨h.1, h.2⟩
   simp only [mayS, hx, h5, c]
   simp
 ·simp [mayS, mayT3, mayType3, hx, h1, h2, h3, h4, h5]
theorem typesGo_none {t : List LType} : ∀ (n k : Nat), k + n = t.length → (∀ j < k, mayT3 t j = true) → ((typesGo t n (szs t k)).isSome = (List.range t.length).all (mayT3 t))
  | 0, k, hk, hall => by
    simp only [typesGo, Option.isSome_some]
    rw [eq_comm, List.all_eq_true]
    intro j hj
    exact hall j (by have := List.mem_range.1 hj; omega)
  | n + 1, k, hk, hall => by
    obtain ⟨x, hx⟩ := get_of_lt (show k < t.length by omega)
    obtain ⟨e1, e2⟩ := mayS_eq hx hall
    simp only [typesGo, szs_len, e1]
    cases hm : mayT3 t k with
    | true =>
      rw [if_pos rfl, e2 hm, ← szs_succ]
      refine typesGo_none n (k + 1) (by omega) fun j hj => ?_
      by_cases h : j = k
      · rw [h]; exact hm
      · exact hall j (by omega)
    | false =>
      rw [if_neg (by simp)]
      simp only [Option.isSome_none]
      rw [eq_comm, List.all_eq_false]
      exact ⟨k, List.mem_range.2 (by omega), by simp [hm]⟩
theorem typesE_eq (t : List LType) : typesE t = check3 t := by
 unfold typesE check3
 by_cases h : 16 < t.length
 ·rw [if_pos h, if_pos h]
 ·rw [if_neg h, if_neg h]
  have h2 := typesGo_none (t := t) t.length 0 (by omega) (fun j hj => absurd hj (Nat.not_lt_zero _))
  have h3 : szs t 0 = [] := rfl
  rw [h3] at h2
  cases hg : typesGo t t.length [] with
  | none => rw [hg] at h2; rw [if_neg (by rw [← h2]; simp)]
  | some v => rw [hg] at h2; rw [if_pos (by rw [← h2]; rfl)]
end Go.Ax
set_option maxRecDepth 20000
noncomputable section
namespace Go.Ax
open Go.Proofs
attribute [local irreducible] TW TO CallsT PureC
variable {F : Nat → Option Obj} {gl : Nat → AV} {K : Knob} {S S' : Nat → Prop}
theorem chk1_qt (hV : Env F gl K) (p : LProg) (f : LFunc) (hs : SmallF f) (ho : OpsOk f) (hp : ∀ x ∈ p.types.list, x.parts.list.length < 900000) (h : Hp) (r : Nat) (hr : h.get r = some (.cells T_prog p.cells)) (hrn : r < h.nx) :
  Qt Tryz.prog F h (.bool (!mayFunc6 p f)) N_shape_Check_1 [.agg f.cells, .ptr r 0] := by
 have hP := hV.P
 refine CallsT.body hP nix_sound E_shape_Check_1 rfl rfl ?_
 have e1 := function_pure hV p f hs ho hp
 dsimp only [T_prog] at hr
 refine TW.seq (TW.regG hP (by simp <;> rfl) ?_)
 dsimp only [goK, thenQ, blockQ, roundL]
 refine TW.gen (fun g => g.get h.nx = some (.cells T_func f.cells) ∧ g.get r = some (.cells T_prog p.cells) ∧ Wid h g) ⟨by simp, by rw [get_new, if_neg (by omega)]; exact hr, (Wid.refl h).new _⟩ fun g hg => ?_
 obtain ⟨g1, g2, hw⟩ := hg
 dsimp only [T_func, T_prog] at g1 g2
 repeat' first | refine TW.seq ?_ | (refine TW.regG hP (by simp [g1, g2] <;> rfl) ?_; dsimp only [goK]) | (refine TO.scall hP I_shape_function (e1) ?_ rfl rfl rfl rfl ?_; (focus (simp; done)); refine TO.runsG hP (by simp <;> rfl) ?_; dsimp only [goK]) | simp only [thenQ]
 refine TW.ret ⟨.inr rfl, g, _, rfl, rfl, ?_, hw⟩
 simp [tupOf]
structure OpsP (p : LProg) : Prop where
 op : ∀ f ∈ p.funcs.list, OpsOk f
theorem shape_Check_pure (hV : Env F gl K) (p : LProg) (hs : SmallP p) (ho : OpsP p) : PureC Tryz.prog F N_shape_Check [.agg p.cells] (.int .i64 (check6 p)) := by
  have hP := hV.P
  have hnf := hs.nf
  have hnt := hs.nt
  have e1 := types_Check_pure hP p.types hs.parts (by omega)
  rw [typesE_eq] at e1
  have eb := below_pure hP (p.funcs.list.length - 1) 8
  have hw1 := w64e (n := (p.funcs.list.length : Int) - 1) (by omega) (by omega)
  refine CallsT.pure (O := fun u _ => u = .int .i64 (check6 p)) (k := 1) (by simp) ?_ (fun u g e => by subst e; rfl)
  refine CallsT.body hP nix_sound E_shape_Check rfl rfl ?_
  refine TW.seq (TW.regG hP (by simp <;> rfl) ?_)
  dsimp only [goK, thenQ, blockQ, roundL]
  by_cases hc3 : check3 p.types.list = 0
  · rw [hc3] at e1
    refine TW.gen (fun g => g.get 0 = some (.cells T_prog p.cells) ∧ g.nx = 1) ⟨by simp, by simp⟩ fun g hgg => ?_
    obtain ⟨hg0, hnx⟩ := hgg
    have hg := hg0
    dsimp only [T_prog] at hg0
    cases hb : belowS (p.funcs.list.length - 1) 8 with
    | false =>
      rw [hb] at eb
      repeat' first | refine TW.seq ?_ | refine TW.skip ?_ | refine TW.condT hP rfl ?_ | refine TW.condF hP rfl ?_ | (refine TW.regG hP (by simp [hg0, hw1] <;> rfl) ?_; dsimp only [goK]) | (refine TO.scall hP I_types_Check (e1) ?_ rfl rfl rfl rfl ?_; (focus (simp; done)); refine TO.runsG hP (by simp <;> rfl) ?_; dsimp only [goK]) | (refine TO.scall hP I_shape_below (eb) ?_ rfl rfl rfl rfl ?_; (focus (simp; done)); refine TO.runsG hP (by simp <;> rfl) ?_; dsimp only [goK]) | simp only [thenQ] | (refine TW.ret ⟨.inr rfl, _, _, rfl, rfl, ?_⟩; dsimp only [tupOf])
      all_goals (simp [belowS] at hb; simp [check6, hc3]; try omega)
    | true =>
      rw [hb] at eb
      have e2 := ContainsFunc_funcs hP p.funcs N_shape_Check_1 [.ptr 0 0] (fun f => !mayFunc6 p f) I_shape_Check_1 g (by omega) (fun f hf h' hw' => chk1_qt hV p f (hs.funcs f hf) (ho.op f hf) hs.parts h' 0 (hw'.at hg (by omega)) (by have := hw'.nx; omega))
      have hall : p.funcs.list.any (fun f => !mayFunc6 p f) = !p.funcs.list.all (mayFunc6 p) := by rw [List.not_all_eq_any_not]
      rw [hall] at e2
      repeat' first | refine TW.seq ?_ | refine TW.skip ?_ | refine TW.condF hP rfl ?_ | (refine TW.regG hP (by simp [hg0, hw1] <;> rfl) ?_; dsimp only [goK]) | (refine TO.scall hP I_types_Check (e1) ?_ rfl rfl rfl rfl ?_; (focus (simp; done)); refine TO.runsG hP (by simp <;> rfl) ?_; dsimp only [goK]) | (refine TO.scall hP I_shape_below (eb) ?_ rfl rfl rfl rfl ?_; (focus (simp; done)); refine TO.runsG hP (by simp [hg0] <;> rfl) ?_; dsimp only [goK])
      simp [belowS] at hb
      cases ha : p.funcs.list.all (mayFunc6 p) with
      | true =>
        rw [ha] at e2
        refine TO.qcall hP I_slices_ContainsFunc_api_Func_api_Func e2 (by simp) rfl rfl rfl rfl fun k hk => ?_
        refine TO.runsG hP (by simp <;> rfl) ?_
        try dsimp only [goK]
        repeat' first | refine TW.seq ?_ | refine TW.skip ?_ | refine TW.condF hP rfl ?_ | (refine TW.regG hP (by simp <;> rfl) ?_; dsimp only [goK]) | simp only [thenQ] | (refine TW.ret ⟨.inr rfl, _, _, rfl, rfl, ?_⟩; dsimp only [tupOf])
        simp only [check6, hc3, ha]
        simp
        omega
      | false =>
        rw [ha] at e2
        refine TO.qcall hP I_slices_ContainsFunc_api_Func_api_Func e2 (by simp) rfl rfl rfl rfl fun k hk => ?_
        refine TO.runsG hP (by simp <;> rfl) ?_
        try dsimp only [goK]
        repeat' first | refine TW.seq ?_ | refine TW.condT hP rfl ?_ | (refine TW.regG hP (by simp <;> rfl) ?_; dsimp only [goK]) | simp only [thenQ] | (refine TW.ret ⟨.inr rfl, _, _, rfl, rfl, ?_⟩; dsimp only [tupOf])
        simp only [check6, hc3, ha]; simp
  · repeat' first | refine TW.seq ?_ | refine TW.condT hP rfl ?_ | (refine TW.regG hP (by simp [hc3] <;> rfl) ?_; dsimp only [goK]) | (refine TO.scall hP I_types_Check (e1) ?_ rfl rfl rfl rfl ?_; (focus (simp; done)); refine TO.runsG hP (by simp <;> rfl) ?_; dsimp only [goK]) | simp only [thenQ] | (refine TW.ret ⟨.inr rfl, _, _, rfl, rfl, ?_⟩; dsimp only [tupOf])
    all_goals simp [check6, hc3]
def sigAt (p : LProg) (f : Int) : Int := match p.funcs.list[f.toNat]? with | some x => sigParts p x | none => 0
def askedN (p : LProg) (f : Int) : Int := if asked6 p f = 0 then sigAt p f else 0
theorem shape_asked_pure (hV : Env F gl K) (p : LProg) (f : Int) (hs : SmallP p) (ho : OpsP p) : PureC Tryz.prog F N_shape_asked [.agg p.cells, .int .i64 f] (.tup [.int .i64 (askedN p f), .int .i64 (asked6 p f)]) := by
  have hP := hV.P
  have hX := hV.X
  have e1 := shape_Check_pure hV p hs ho
  have eb := below_pure hP f p.funcs.list.length
  refine CallsT.pure (O := fun u _ => u = .tup [.int .i64 (askedN p f), .int .i64 (asked6 p f)]) (k := 2) (by simp) ?_ (fun u g e => by subst e; rfl)
  refine CallsT.body hP nix_sound E_shape_asked rfl rfl ?_
  by_cases hc : check6 p = 0
  · rw [hc] at e1
    cases hb : belowS f p.funcs.list.length with
    | false =>
      rw [hb] at eb
      repeat' first | refine TW.seq ?_ | refine TW.skip ?_ | refine TW.condT hP rfl ?_ | refine TW.condF hP rfl ?_ | (refine TW.regG hP (by simp <;> rfl) ?_; dsimp only [goK]) | (refine TO.scall hP I_shape_Check (e1) ?_ rfl rfl rfl rfl ?_; (focus (simp; done)); refine TO.runsG hP (by simp <;> rfl) ?_; dsimp only [goK]) | (refine TO.scall hP I_shape_below (eb) ?_ rfl rfl rfl rfl ?_; (focus (simp; done)); refine TO.runsG hP (by simp <;> rfl) ?_; dsimp only [goK]) | simp only [thenQ] | (refine TW.ret ⟨.inr rfl, _, _, rfl, rfl, ?_⟩; dsimp only [tupOf])
      have hb2 : f < 0 ∨ (p.funcs.list.length : Int) ≤ f := by simp [belowS] at hb; omega
      have ha : asked6 p f = 2 := by rw [asked6, if_pos ⟨hc, hb2⟩]
      rw [askedN, ha]; rfl
    | true =>
      rw [hb] at eb
      have hb2 : 0 ≤ f ∧ f < (p.funcs.list.length : Int) := by simp [belowS] at hb; omega
      have ha : asked6 p f = 0 := by rw [asked6, if_neg (by omega), hc]
      obtain ⟨n, rfl⟩ := Int.eq_ofNat_of_zero_le hb2.1
      have hn : n < p.funcs.list.length := by omega
      obtain ⟨x, hx⟩ := get_of_lt hn
      obtain ⟨c1, c2, c3, c4⟩ := check6_funcs hc
      obtain ⟨a1, a2, a3, a4, a5, a6⟩ := mayFunc6_sig (c2 x (List.mem_of_getElem? hx))
      obtain ⟨m, hm⟩ := Int.eq_ofNat_of_zero_le a1
      have hml : m < p.types.list.length := by omega
      obtain ⟨y, hy⟩ := get_of_lt hml
      have hav := av_pos (e := LType.cells) (show 0 < p.types.list.length by omega)
      have hav2 := av_pos (e := LFunc.cells) (show 0 < p.funcs.list.length by omega)
      refine TW.seq (TW.regG hP (by simp <;> rfl) ?_)
      dsimp only [goK, thenQ, blockQ, roundL]
      refine TW.gen (fun g => g.get 0 = some (.cells T_prog p.cells)) (by simp) fun g hg0 => ?_
      dsimp only [T_prog] at hg0
      repeat' first | refine TW.seq ?_ | refine TW.skip ?_ | refine TW.condF hP rfl ?_ | (refine TW.regG hP (by simp [hg0] <;> rfl) ?_; dsimp only [goK]) | (refine TO.scall hP I_shape_Check (e1) ?_ rfl rfl rfl rfl ?_; (focus (simp; done)); refine TO.runsG hP (by simp <;> rfl) ?_; dsimp only [goK]) | (refine TO.scall hP I_shape_below (eb) ?_ rfl rfl rfl rfl ?_; (focus (simp; done)); refine TO.runsG hP (by simp <;> rfl) ?_; dsimp only [goK])
      try refine TW.seq ?_
      refine TW.drawG hP [] (fun e he => by cases he) (by kernel_rfl) (by simp [hg0, hx, hy, hm, hav, hav2] <;> rfl) ?_
      repeat' (refine okQ_guard (fun hb => ?_) (fun hb => ?_) <;> (try simp only [Bool.not_eq_eq_eq_not, Bool.not_true, Bool.not_false] at hb) <;> refine okQ_eq (by simp [hb, hX, hg0, hx, hy, hm, hav, hav2, decide_eq_true hn, decide_eq_true hml] <;> rfl) ?_)
      all_goals dsimp only [okQ, thenQ]
      repeat' first | (refine TW.ret ⟨.inr rfl, _, _, rfl, rfl, ?_⟩; dsimp only [tupOf])
      rw [askedN, ha]
      simp [sigAt, hx, sigParts, hm, hy]
  · repeat' first | refine TW.seq ?_ | refine TW.condT hP rfl ?_ | (refine TW.regG hP (by simp [hc] <;> rfl) ?_; dsimp only [goK]) | (refine TO.scall hP I_shape_Check (e1) ?_ rfl rfl rfl rfl ?_; (focus (simp; done)); refine TO.runsG hP (by simp <;> rfl) ?_; dsimp only [goK]) | simp only [thenQ] | (refine TW.ret ⟨.inr rfl, _, _, rfl, rfl, ?_⟩; dsimp only [tupOf])
    have ha : asked6 p f = check6 p := by rw [asked6, if_neg (by omega)]
    rw [askedN, ha, if_neg hc]
def regsAt (p : LProg) (f : Int) : Int := if asked6 p f = 0 then (match p.funcs.list[f.toNat]? with | some x => regs6 p x | none => 0) else 0
theorem shape_Regs_pure (hV : Env F gl K) (p : LProg) (f : Int) (hs : SmallP p) (ho : OpsP p) : PureC Tryz.prog F N_shape_Regs [.agg p.cells, .int .i64 f] (.tup [.int .i64 (regsAt p f), .int .i64 (asked6 p f)]) := by
 have hP := hV.P
 have e1 := shape_asked_pure hV p f hs ho
 refine CallsT.pure (O := fun u _ => u = .tup [.int .i64 (regsAt p f), .int .i64 (asked6 p f)]) (k := 2) (by simp) ?_ (fun u g e => by subst e; rfl)
 refine CallsT.body hP nix_sound E_shape_Regs rfl rfl ?_
 by_cases hc : asked6 p f = 0
 ·obtain ⟨c1, c2, c3⟩ := asked6_ok hc
  obtain ⟨n, rfl⟩ := Int.eq_ofNat_of_zero_le c2
  have hn : n < p.funcs.list.length := by omega
  obtain ⟨x, hx⟩ := get_of_lt hn
  have hxm := List.mem_of_getElem? hx
  have e2 := many_pure hP x (hs.funcs x hxm)
  have hav2 := av_pos (e := LFunc.cells) (show 0 < p.funcs.list.length by omega)
  have hr := regs6_small ((check6_funcs c1).2.1 x hxm) hs.parts
  unfold regs6 at hr
  have hN : askedN p n = sigParts p x := by rw [askedN, if_pos hc]; simp [sigAt, hx]
  rw [hc, hN] at e1
  have hw := w64e (n := sigParts p x + many6 x.blocks.list) (by omega) (by omega)
  refine TW.seq (TW.regG hP (by simp <;> rfl) ?_)
  dsimp only [goK, thenQ, blockQ, roundL]
  refine TW.gen (fun g => g.get 0 = some (.cells T_prog p.cells)) (by simp) fun g hg0 => ?_
  dsimp only [T_prog] at hg0
  try refine TW.seq ?_
  refine TW.regG hP (by simp [hg0] <;> rfl) ?_
  dsimp only [goK]
  refine TO.scall hP I_shape_asked (e1) (by simp) rfl rfl rfl rfl ?_
  refine TO.runsG hP (by simp <;> rfl) ?_
  dsimp only [goK, thenQ]
  repeat' first | refine TW.seq ?_ | refine TW.skip ?_ | refine TW.condF hP rfl ?_ | (refine TW.regG hP (by simp [hg0, hx, hav2] <;> rfl) ?_; dsimp only [goK]) | (refine TO.scall hP I_shape_many (e2) ?_ rfl rfl rfl rfl ?_; (focus (simp; done)); refine TO.runsG hP (by simp [hw] <;> rfl) ?_; dsimp only [goK]) | simp only [thenQ] | (refine TW.ret ⟨.inr rfl, _, _, rfl, rfl, ?_⟩; dsimp only [tupOf])
  rw [hc]
  simp [regsAt, hc, hx, regs6]
 ·repeat' first | refine TW.seq ?_ | refine TW.condT hP rfl ?_ | (refine TW.regG hP (by simp [hc] <;> rfl) ?_; dsimp only [goK]) | (refine TO.scall hP I_shape_asked (e1) ?_ rfl rfl rfl rfl ?_; (focus (simp; done)); refine TO.runsG hP (by simp <;> rfl) ?_; dsimp only [goK]) | simp only [thenQ] | (refine TW.ret ⟨.inr rfl, _, _, rfl, rfl, ?_⟩; dsimp only [tupOf])
  simp [regsAt, hc]
end Go.Ax
noncomputable section
namespace Go.Ax
section
variable {P : Program} {F : Nat → Option Obj} {gl : Nat → AV} {K : Knob}
inductive Ren (σ : Nat → Nat) (U : Nat → Prop) : AV → AV → Prop
 | bare {v : AV} (h : noRef v = true) : Ren σ U v v
 | sl {r o len cap es : Nat} {x x' : Bool} (h : U r) (hx : x = true → x' = true) : Ren σ U (.sl r o len cap es x) (.sl (σ r) o len cap es x')
 | ptr {r o : Nat} (h : U r) : Ren σ U (.ptr r o) (.ptr (σ r) o)
 | nil0 : Ren σ U (.isl []) .nilsl
 | sl0 {r o cap es : Nat} {x : Bool} : Ren σ U (.isl []) (.sl r o 0 cap es x)
 | agg {l1 l2 : List AV} (hl : l1.length = l2.length) (h : ∀ (i : Nat) (x y : AV), l1[i]? = some x → l2[i]? = some y → Ren σ U x y) : Ren σ U (.agg l1) (.agg l2)
 | tup {l1 l2 : List AV} (hl : l1.length = l2.length) (h : ∀ (i : Nat) (x y : AV), l1[i]? = some x → l2[i]? = some y → Ren σ U x y) : Ren σ U (.tup l1) (.tup l2)
structure RenL (σ : Nat → Nat) (U : Nat → Prop) (l1 l2 : List AV) : Prop where
 len : l1.length = l2.length
 at' : ∀ (i : Nat) (x y : AV), l1[i]? = some x → l2[i]? = some y → Ren σ U x y
theorem Ren.mono {σ τ : Nat → Nat} {U V : Nat → Prop} (h : ∀ r, U r → V r ∧ τ r = σ r) {x y : AV} (H : Ren σ U x y) : Ren τ V x y := by
 induction H with
 | bare h => exact .bare h
 | sl hU hx => rw [← (h _ hU).2]; exact .sl (h _ hU).1 hx
 | ptr hU => rw [← (h _ hU).2]; exact .ptr (h _ hU).1
 | nil0 => exact .nil0
 | sl0 => exact .sl0
 | agg hl _ ih => exact .agg hl ih
 | tup hl _ ih => exact .tup hl ih
theorem RenL.mono {σ τ : Nat → Nat} {U V : Nat → Prop} (h : ∀ r, U r → V r ∧ τ r = σ r) {x y : List AV} (H : RenL σ U x y) : RenL τ V x y := ⟨H.len, fun i a b ha hb => (H.at' i a b ha hb).mono h⟩
theorem RenL.nil {σ : Nat → Nat} {U : Nat → Prop} : RenL σ U [] [] := ⟨rfl, fun i x y h => by simp at h⟩
theorem RenL.cons {σ : Nat → Nat} {U : Nat → Prop} {x y : AV} {l k : List AV} (h : Ren σ U x y) (hl : RenL σ U l k) : RenL σ U (x :: l) (y :: k) :=
  ⟨by simp [hl.len], fun i p q hp hq => by
    cases i with
    | zero => simp at hp hq; subst hp hq; exact h
    | succ i => exact hl.at' i p q (by simpa using hp) (by simpa using hq)⟩
theorem RenL.append {σ : Nat → Nat} {U : Nat → Prop} {l k l' k' : List AV} (h : RenL σ U l k) (h' : RenL σ U l' k') : RenL σ U (l ++ l') (k ++ k') :=
  ⟨by simp [h.len, h'.len], fun i p q hp hq => by
    by_cases hi : i < l.length
    · rw [List.getElem?_append_left hi] at hp
      rw [List.getElem?_append_left (by rw [← h.len]; exact hi)] at hq
      exact h.at' i p q hp hq
    · rw [List.getElem?_append_right (by omega)] at hp
      rw [List.getElem?_append_right (by rw [← h.len]; omega), ← h.len] at hq
      exact h'.at' _ p q hp hq⟩
theorem RenL.bare {σ : Nat → Nat} {U : Nat → Prop} {l : List AV} (h : noRefs l = true) : RenL σ U l l := ⟨rfl, fun i x y hx hy => by rw [hx] at hy; cases hy; exact .bare (noRefs_at h hx)⟩
theorem RenL.agg {σ : Nat → Nat} {U : Nat → Prop} {l k : List AV} (h : RenL σ U l k) : Ren σ U (.agg l) (.agg k) := .agg h.len h.at'
theorem VRel.ren {m1 m2 : Loc} {σ : Nat → Nat} {U : Nat → Prop} (hU : ∀ r, U r → m1 r = m2 (σ r)) (hf : m1.fz = m2.fz) {x y : AV} (H : Ren σ U x y) : ∀ {cv : Value}, VRel P F m2 y cv → VRel P F m1 x cv := by
  induction H with
  | bare h =>
    intro cv hv
    exact VRel.mono (m := ⟨fun _ => none, m1.fz⟩) (m' := m1) ⟨fun r c e => (by cases e), fun _ _ e => e⟩ (hv.unref (fz := m1.fz) (fun b o e => by rw [hf]; exact e) h)
  | sl h hx0 =>
    intro cv hv
    cases hv with
    | sl hm hl hc hx hz => exact .sl ((hU _ h).trans hm) hl hc (fun e => hx (hx0 e)) hz
  | ptr h =>
    intro cv hv
    cases hv with
    | ptr hm => exact .ptr ((hU _ h).trans hm)
  | nil0 =>
    intro cv hv
    cases hv
    exact .isl0 none 0
  | sl0 =>
    intro cv hv
    cases hv with
    | sl hm hl hc hx hz => exact .isl0 _ _
  | @agg l1 l2 hl _ ih =>
    intro cv hv
    cases hv with
    | agg hl2 hc =>
      refine .agg (hl.trans hl2) fun i x y hx hy => ?_
      obtain ⟨b, hb⟩ : ∃ b, l2[i]? = some b := ⟨l2[i]'(by rw [← hl]; exact (List.getElem?_eq_some_iff.1 hx).1), List.getElem?_eq_getElem _⟩
      exact ih i x b hx hb (hc i b y hb hy)
  | @tup l1 l2 hl _ ih =>
    intro cv hv
    cases hv with
    | tup hl2 hc =>
      refine .tup (hl.trans hl2) fun i x y hx hy => ?_
      obtain ⟨b, hb⟩ : ∃ b, l2[i]? = some b := ⟨l2[i]'(by rw [← hl]; exact (List.getElem?_eq_some_iff.1 hx).1), List.getElem?_eq_getElem _⟩
      exact ih i x b hx hb (hc i b y hb hy)
def Hp.e : Hp := { nx := 0, m := .e, lo := 0 }
theorem e_get (r : Nat) : Hp.e.get r = none := Tr.get_e ..
structure Iso (h : Hp) (v1 : AV) (h1 : Hp) (v2 : AV) (h2 : Hp) (σ : Nat → Nat) (U : Nat → Prop) : Prop where
 val : Ren σ U v1 v2
 dom : ∀ r, U r → h.nx ≤ r ∧ r < h1.nx
 inj : ∀ r s, U r → U s → σ r = σ s → r = s
 obj : ∀ r, U r → ∃ e cs1 cs2, h1.get r = some (.cells e cs1) ∧ h2.get (σ r) = some (.cells e cs2) ∧ RenL σ U cs1 cs2
theorem Calling.of_iso {h h1 : Hp} {v1 : AV} {f : FuncId} {args : List AV} {O : AV → Hp → Prop} (hc : CallsT P F Hp.e O f args) (hb : noRefs args = true) (hw : Wid h h1) (hwf : ∀ r, h1.nx ≤ r → h1.get r = none)
    (hI : ∀ v2 h2, O v2 h2 → ∃ σ U, Iso h v1 h1 v2 h2 σ U) : Calling P F h h1 v1 f args := by
  intro m w n cargs hR hA hF
  have hR0 : HRel P F ⟨fun _ => none, m.fz⟩ Hp.e w := ⟨fun r o b z hg hm => (by cases hm), fun r s o q b y z hg hl hg' hl' hm hm' => (by cases hm), fun r o b z hg hl hm => (by cases hm), hR.frz, fun r _ => e_get r⟩
  refine (hc ⟨fun _ => none, m.fz⟩ w n cargs hR0 (hA.unref (fun b o e => e) hb) (fun r _ => rfl)).mono fun e w' he => ?_
  obtain ⟨v2, h2, hO, hle, cv, m2, rfl, hs, hv⟩ := he
  obtain ⟨σ, U, I⟩ := hI v2 h2 hO
  have none0 : ∀ r o, Hp.e.get r = some o → False := fun r o hg => by rw [e_get] at hg; cases hg
  let m1 : Loc := ⟨fun r => @ite _ (h.nx ≤ r ∧ r < h1.nx) (Classical.propDecidable _) (@ite _ (U r) (Classical.propDecidable _) (m2 (σ r)) none) (m r), m2.fz⟩
  have inU : ∀ r, U r → m1 r = m2 (σ r) := fun r hr => by
    show @ite _ _ (Classical.propDecidable _) (@ite _ _ (Classical.propDecidable _) _ _) _ = _
    rw [if_pos (I.dom r hr), if_pos hr]
  have inR : ∀ r c, m1 r = some c → h.nx ≤ r → r < h1.nx → U r ∧ m2 (σ r) = some c := fun r c hm h1' h2' => by
    have hm : @ite _ _ (Classical.propDecidable _) (@ite _ _ (Classical.propDecidable _) _ _) _ = some c := hm
    rw [if_pos ⟨h1', h2'⟩] at hm
    split at hm
    · rename_i hu; exact ⟨hu, hm⟩
    · cases hm
  have out : ∀ r, ¬ (h.nx ≤ r ∧ r < h1.nx) → m1 r = m r := fun r hr => by
    show @ite _ _ (Classical.propDecidable _) (@ite _ _ (Classical.propDecidable _) _ _) _ = _
    rw [if_neg hr]
  have live2 : ∀ r c, U r → m2 (σ r) = some c → ∃ e cs, h2.get (σ r) = some (.cells e cs) := fun r c hr _ => by
    obtain ⟨e, cs1, cs2, _, g2, _⟩ := I.obj r hr; exact ⟨e, cs2, g2⟩
  have new2 : ∀ r b z, U r → m2 (σ r) = some (b, z) → w.heap.size ≤ b := fun r b z hr hm => by
    obtain ⟨e, cs, g⟩ := live2 r _ hr hm
    rcases hs.mnew (σ r) b z hm rfl ⟨_, g, rfl⟩ with h' | ⟨s, o, y, hg, _, _⟩
    · exact h'
    · exact (none0 _ _ hg).elim
  have part : ∀ r o b z, h1.get r = some o → m1 r = some (b, z) → (U r ∧ m2 (σ r) = some (b, z)) ∨ (r < h.nx ∧ h.get r = some o ∧ m r = some (b, z)) := fun r o b z hg hm => by
    by_cases hlt : r < h.nx
    · right
      rw [out r (by omega)] at hm
      rw [hw.get r hlt] at hg
      exact ⟨hlt, hg, hm⟩
    · left
      by_cases hlt2 : r < h1.nx
      · exact inR r _ hm (by omega) hlt2
      · rw [hwf r (by omega)] at hg; cases hg
  have hlm : Loc.le m m1 := ⟨fun r c hm => by
    by_cases hr : h.nx ≤ r ∧ r < h1.nx
    · have := hF r hr.1 hr.2; rw [this] at hm; cases hm
    · rw [out r hr]; exact hm, hs.le.frz⟩
  have same : ∀ b, b < w.heap.size → w'.heap[b]? = w.heap[b]? := fun b hb => hs.old b hb fun r o z hg => (none0 _ _ hg).elim
  have tr : ∀ {x y : AV} {cv : Value}, Ren σ U x y → VRel P F m2 y cv → VRel P F m1 x cv := fun H hv => VRel.ren inU rfl H hv
  refine ⟨cv, m1, rfl, ⟨hlm, fun r c h1' h2' => ?_, ⟨fun r o b z hg hm => ?_, fun r s o q b y z hg hl hg' hl' hm hm' => ?_, fun r o b z hg hl hm => ?_, fun b o hb => ?_, hwf⟩, hs.same, hs.size, fun b hb _ => same b hb, hw.nx, fun r o' c hg hl hm => ?_, fun r b z h1' h2' hlv => ?_, fun b o hb => ?_⟩, tr I.val hv⟩
  · by_cases hr : h.nx ≤ r ∧ r < h1.nx
    · exact hr
    · rw [out r hr, h2'] at h1'; cases h1'
  · rcases part r o b z hg hm with ⟨hu, hm2⟩ | ⟨hlt, hg0, hm0⟩
    · obtain ⟨e, cs1, cs2, g1, g2, g3⟩ := I.obj r hu
      rw [g1] at hg; cases hg
      obtain ⟨arr, a1, a2, a3, a4⟩ := hs.rel.obj (σ r) _ b z g2 hm2
      refine ⟨arr, a1, a2, by rw [g3.len]; exact a3, fun i x y hx hy => ?_⟩
      obtain ⟨u, hu'⟩ : ∃ u, cs2[i]? = some u := ⟨cs2[i]'(by rw [← g3.len]; exact (List.getElem?_eq_some_iff.1 hx).1), List.getElem?_eq_getElem _⟩
      exact tr (g3.at' i x u hx hu') (a4 i u y hu' hy)
    · by_cases hl : o.live = true
      · have := hR.obj r o b z hg0 hm0
        rw [same b (hR.lt hg0 hl hm0)]
        exact this.mono hlm
      · cases o <;> first | trivial
  · rcases part r o b y hg hm with ⟨hu, hm2⟩ | ⟨hlt, hg0, hm0⟩ <;> rcases part s q b z hg' hm' with ⟨hu', hm2'⟩ | ⟨hlt', hg0', hm0'⟩
    · obtain ⟨e, cs, g⟩ := live2 r _ hu hm2
      obtain ⟨e', cs', g'⟩ := live2 s _ hu' hm2'
      exact I.inj r s hu hu' (hs.rel.inj _ _ _ _ b y z g rfl g' rfl hm2 hm2')
    · have := new2 r b y hu hm2
      have := hR.lt hg0' hl' hm0'
      omega
    · have := new2 s b z hu' hm2'
      have := hR.lt hg0 hl hm0
      omega
    · exact hR.inj r s o q b y z hg0 hl hg0' hl' hm0 hm0'
  · rcases part r o b z hg hm with ⟨hu, hm2⟩ | ⟨hlt, hg0, hm0⟩
    · obtain ⟨e, cs, g⟩ := live2 r _ hu hm2
      exact hs.rel.out _ _ b z g rfl hm2
    · obtain ⟨q1, q2⟩ := hR.out r o b z hg0 hl hm0
      refine ⟨q1, ?_⟩
      show m2.fz b = none
      cases hf : m2.fz b with
      | none => rfl
      | some x =>
        rcases hs.fnew b x hf with h3 | h3 | ⟨s, q, y, hgs, _⟩
        · have h3 : m.fz b = some x := h3
          rw [q2] at h3; cases h3
        · have := hR.lt hg0 hl hm0; omega
        · exact (none0 _ _ hgs).elim
  · exact hs.rel.frz b o hb
  · by_cases hlt : r < h.nx
    · rw [hw.get r hlt] at hg; exact ⟨o', hg, hl⟩
    · by_cases hlt2 : r < h1.nx
      · rw [hF r (by omega) hlt2] at hm; cases hm
      · rw [hwf r (by omega)] at hg; cases hg
  · obtain ⟨o, hg, hl⟩ := hlv
    rcases part r o b z hg h1' with ⟨hu, hm2⟩ | ⟨hlt, hg0, hm0⟩
    · exact .inl (new2 r b z hu hm2)
    · rw [h2'] at hm0; cases hm0
  · rcases hs.fnew b o hb with h3 | h3 | ⟨s, q, y, hgs, _⟩
    · exact .inl h3
    · exact .inr (.inl h3)
    · exact (none0 _ _ hgs).elim
def Knob.tellP (K : Knob) (f : FuncId) (args : List AV) (h : Hp) (v : AV) (h1 : Hp) : Knob :=
 { K with orc := fun g a => open Classical in if g = f ∧ a = args then none else K.orc g a, prim := fun g a k => open Classical in if g = f ∧ a = args ∧ k = h then some (v, h1) else K.prim g a k }
theorem tellP_prim {f : FuncId} {args : List AV} {h h1 : Hp} {v : AV} : (K.tellP f args h v h1).prim f args h = some (v, h1) := by
 show (open Classical in if f = f ∧ args = args ∧ h = h then some (v, h1) else K.prim f args h) = _
 rw [if_pos ⟨rfl, rfl, rfl⟩]
theorem tellP_orc {f : FuncId} {args : List AV} {h h1 : Hp} {v : AV} : (K.tellP f args h v h1).orc f args = none := by
 show (open Classical in if f = f ∧ args = args then none else K.orc f args) = _
 rw [if_pos ⟨rfl, rfl⟩]
theorem pok_tellP (hP : POk P F gl K) {f : FuncId} {args : List AV} {h h1 : Hp} {v : AV} (hle : HpLe h h1) (hc : Calling P F h h1 v f args) : POk P F gl (K.tellP f args h v h1) := by
 refine ⟨⟨hP.eq.held, hP.eq.guard, hP.eq.names⟩, hP.glob, hP.names, hP.mixed, fun g a u e => ?_, hP.ext, fun g a k u k' e => ?_⟩
 ·by_cases q : g = f ∧ a = args
  ·obtain ⟨rfl, rfl⟩ := q
   rw [tellP_orc] at e; cases e
  ·have e2 : (K.tellP f args h v h1).orc g a = K.orc g a := if_neg q
   rw [e2] at e; exact hP.orc g a u e
 ·by_cases q : g = f ∧ a = args ∧ k = h
  ·obtain ⟨rfl, rfl, rfl⟩ := q
   rw [tellP_prim] at e; cases e
   exact ⟨hle, hc⟩
  ·have e2 : (K.tellP f args h v h1).prim g a k = K.prim g a k := if_neg q
   rw [e2] at e; exact hP.prim g a k u k' e
end
end Go.Ax
