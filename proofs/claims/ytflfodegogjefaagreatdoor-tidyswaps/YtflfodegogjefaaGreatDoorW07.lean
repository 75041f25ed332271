import Derived.Test.YtflfodegogjefaaGreatDoorW06
import Derived.Deep.Slices
import Derived.Test.YtflfodegogjefaaGreatDoorRows
import Derived.Test.YtflfodegogjefaaGreatDoorTie
import Derived.Test.YtflfodegogjefaaGreatDoorCards
import Derived.Test.YtflfodegogjefaaGreatDoorChecked
import Derived.ProofKit
import Derived.LaidMore
import Derived.LaidHandle
import Derived.Stop.Joined
import Derived.SevenTiedAt
set_option linter.unusedSimpArgs false
set_option linter.unusedVariables false
set_option maxRecDepth 20000
noncomputable section
namespace Go.Ax
open Go.Proofs
attribute [local irreducible] TW TO CallsT PureC
variable {F : Nat → Option Obj} {gl : Nat → AV} {K : Knob} {S S' : Nat → Prop} {X : Type}
def ResV (fl : Bool → Prop) (e : Int) (tl : List LType) (fs : List LFunc) (v : AV) (h : Hp) (S : Nat → Prop) : Prop :=
 (e ≠ 0 ∧ v = .tup [noV, .int .i64 e]) ∨ (e = 0 ∧ ∃ tv fv ST SF, v = .tup [.agg [tv, fv], .int .i64 0] ∧ SlO fl (TypO fl) 4 T_type tv tl h ST ∧ SlO fl (FunO fl) 2 T_func fv fs h SF ∧ (∀ s, ST s → S s ∧ ¬ SF s) ∧ ∀ s, SF s → S s)
theorem ResV.locl {fl : Bool → Prop} {e : Int} {tl : List LType} {fs : List LFunc} {v : AV} : Locl (ResV fl e tl fs v) := fun h g S S' H hS hg => by
 rcases H with H | ⟨he, tv, fv, ST, SF, h1, h2, h3, h4, h5⟩
 ·exact .inl H
 ·exact .inr ⟨he, tv, fv, ST, SF, h1, SlO.locl TypO.locl _ _ _ _ h2 (fun _ h => h) fun s hs => hg s (h4 s hs).1, SlO.locl FunO.locl _ _ _ _ h3 (fun _ h => h) fun s hs => hg s (h5 s hs), fun s hs => ⟨hS s (h4 s hs).1, (h4 s hs).2⟩, fun s hs => hS s (h5 s hs)⟩
theorem RenL.tup {σ : Nat → Nat} {U : Nat → Prop} {l k : List AV} (h : RenL σ U l k) : Ren σ U (.tup l) (.tup k) := .tup h.len h.at'
theorem ResV.rig (e : Int) (tl : List LType) (fs : List LFunc) : RigV (ResV OffF e tl fs) (ResV AnyF e tl fs) := by
 intro v1 h1 S1 v2 h2 S2 H1 H2
 rcases H1 with ⟨he, rfl⟩ | ⟨he, tv, fv, ST, SF, rfl, a2, a3, a4, a5⟩ <;> rcases H2 with ⟨he', rfl⟩ | ⟨he', tv', fv', ST', SF', rfl, b2, b3, b4, b5⟩
 ·exact ⟨_, _, .nil, .bare rfl⟩
 ·exact absurd he' he
 ·exact absurd he he'
 ·obtain ⟨σ, U, H, hr⟩ := SlO.rig (es := 4) (eT := T_type) (fun a _ => TypO.rig a) tv h1 ST tv' h2 ST' a2 b2
  obtain ⟨τ, V, K, kr⟩ := SlO.rig (es := 2) (eT := T_func) (fun a _ => FunO.rig a) fv h1 SF fv' h2 SF' a3 b3
  obtain ⟨ρ, W, T, u, v⟩ := H.pair K a4 a5 b4 b5
  exact ⟨ρ, W, T, RenL.tup (.cons (RenL.agg (.cons (hr.mono u) (.cons (kr.mono v) .nil))) (.cons (.bare rfl) .nil))⟩
theorem ResV.ex (e : Int) (tl : List LType) (fs : List LFunc) : ExV (ResV OffF e tl fs) := by
 intro h hw
 by_cases he : e = 0
 ·obtain ⟨u, h1, S, p1, p2, p3, p4⟩ := SlO.ex (es := 4) (eT := T_type) TypO.locl TypO.len (fun a (_ : a ∈ tl) => TypO.ex a) h hw
  obtain ⟨u2, h2, S2, q1, q2, q3, q4⟩ := SlO.ex (es := 2) (eT := T_func) FunO.locl FunO.len (fun a (_ : a ∈ fs) => FunO.ex a) h1 p3
  have := p2.nx; have := q2.nx
  exact ⟨_, h2, fun s => h.nx ≤ s ∧ s < h2.nx, .inr ⟨he, u, u2, S, S2, rfl, SlO.locl TypO.locl _ _ _ _ p1 (fun _ h => h) fun s hs => q2.get s (p4 s hs).2, q1, fun s hs => ⟨⟨(p4 s hs).1, by have := p4 s hs; omega⟩, fun hs2 => by have := p4 s hs; have := q4 s hs2; omega⟩, fun s hs => by have := q4 s hs; omega⟩, p2.trans q2, q3, fun s hs => hs⟩
 ·exact ⟨_, h, fun _ => False, .inl ⟨he, rfl⟩, .refl h, hw, fun _ h => h.elim⟩
def asReadT (x : LType) : LType := { x with parts := .mk x.parts.list }
def asReadB (b : LBlock) : LBlock := { ins := .mk (b.ins.list.map asRead), ed := b.ed }
def asReadF (f : LFunc) : LFunc := { sig := f.sig, blocks := .mk (f.blocks.list.map asReadB) }
def asReadP (tl : List LType) (fs : List LFunc) : LProg := { types := .mk (tl.map asReadT), funcs := .mk (fs.map asReadF) }
theorem IntO.rdF {v : AV} {l : List Int} {h : Hp} (H : IntO OffF v l h S) (k : Nat) : RdF S h (k + 2) v ((Sl.mk l).av cI) := fun g hg => (IntO.locl _ _ _ S H (fun _ h => h) hg).frz k
theorem TypO.rdL {x : LType} {row : List AV} {h : Hp} (H : TypO OffF x row h S) (k : Nat) : RdL S h (k + 2) row (asReadT x).cells := by
 obtain ⟨v, rfl, h2⟩ := H
 exact .cons rdF_int (.cons rdF_int (.cons rdF_int (.cons (h2.rdF k) .nil)))
theorem InsO.rdL {x : LIns} {row : List AV} {h : Hp} (H : InsO OffF x row h S) (k : Nat) : RdL S h (k + 2) row (asRead x).cells := by
 obtain ⟨va, vf, Sa, Sf, rfl, h2, h3, h4, h5⟩ := H
 exact .cons rdF_int (.cons rdF_int (.cons rdF_int (.cons rdF_int (.cons rdF_int (.cons ((h2.rdF k).mono (fun r hr => (h4 r hr).1) .refl) (.cons ((h3.rdF k).mono h5 .refl) .nil))))))
theorem SlO.rdF {ρ : X → List AV → Asr} {es k : Nat} {eT : TypeId} {v : AV} {l : List X} {h : Hp} {enc : X → List AV} {f : X → X} (hρ : ∀ a row h S, ρ a row h S → RdL S h k row (enc (f a))) (H : SlO OffF ρ es eT v l h S) : RdF S h (k + 1) v ((Sl.mk (l.map f)).av enc) := by
 have e : (Sl.mk (l.map f)).av enc = (Sl.mk l).av (fun a => enc (f a)) := by
  unfold Sl.av
  dsimp only
  rw [List.map_map]; rfl
 rw [e]
 rcases H with ⟨rfl, H⟩ | ⟨x, _, hn, H⟩
 ·rw [H.off]
  exact fun g hg => rfl
 ·exact ArrS.rd (enc := fun a => enc (f a)) hρ H
theorem BlkO.rdL {b : LBlock} {row : List AV} {h : Hp} (H : BlkO OffF b row h S) (k : Nat) : RdL S h (k + 3) row (asReadB b).cells := by
 obtain ⟨u, rfl, h2⟩ := H
 exact .cons (h2.rdF (enc := LIns.cells) (f := asRead) fun _ _ _ _ h => InsO.rdL h k) (.cons rdF_int (.cons rdF_int (.cons rdF_int (.cons rdF_int .nil))))
theorem FunO.rdL {b : LFunc} {row : List AV} {h : Hp} (H : FunO OffF b row h S) (k : Nat) : RdL S h (k + 4) row (asReadF b).cells := by
 obtain ⟨u, rfl, h2⟩ := H
 exact .cons rdF_int (.cons (h2.rdF (enc := LBlock.cells) (f := asReadB) fun _ _ _ _ h => BlkO.rdL h k) .nil)
theorem prog_frz {tl : List LType} {fs : List LFunc} {tv fv : AV} {h : Hp} {ST SF : Nat → Prop} (h1 : SlO OffF (TypO OffF) 4 T_type tv tl h ST) (h2 : SlO OffF (FunO OffF) 2 T_func fv fs h SF) (k : Nat) : frzV (k + 6) h (.agg [tv, fv]) = some (.agg (asReadP tl fs).cells) := by
 have e1 := (h1.rdF (enc := LType.cells) (f := asReadT) (k := k + 4) fun _ _ _ _ h => TypO.rdL h (k + 2)) h fun _ _ => rfl
 have e2 := (h2.rdF (enc := LFunc.cells) (f := asReadF) fun _ _ _ _ h => FunO.rdL h k) h fun _ _ => rfl
 unfold frzV
 simp only [mapO, e1, e2]
 rfl
end Go.Ax
set_option maxRecDepth 20000
noncomputable section
namespace Go.Ax
open Go.Proofs
variable {X Y : Type}
def normP (p : LProg) : LProg := asReadP p.types.list p.funcs.list
theorem normP_types (p : LProg) : (normP p).types.list = p.types.list.map asReadT := rfl
theorem normP_funcs (p : LProg) : (normP p).funcs.list = p.funcs.list.map asReadF := rfl
theorem asReadB_ins (b : LBlock) : (asReadB b).ins.list = b.ins.list.map asRead := rfl
theorem asReadF_blocks (f : LFunc) : (asReadF f).blocks.list = f.blocks.list.map asReadB := rfl
theorem asRead_idem (x : LIns) : asRead (asRead x) = asRead x := rfl
theorem asReadT_idem (x : LType) : asReadT (asReadT x) = asReadT x := rfl
theorem map_idem {f : X → X} (h : ∀ x, f (f x) = f x) (l : List X) : (l.map f).map f = l.map f := by
 rw [List.map_map]; exact List.map_congr_left fun x _ => h x
theorem asReadB_idem (b : LBlock) : asReadB (asReadB b) = asReadB b := by
 unfold asReadB
 dsimp only [Sl.list]
 rw [map_idem asRead_idem]
theorem asReadF_idem (b : LFunc) : asReadF (asReadF b) = asReadF b := by
 unfold asReadF
 dsimp only [Sl.list]
 rw [map_idem asReadB_idem]
theorem sameB_map {N : X → X} {s : X → X → Bool} (hs : ∀ x y, N x = N y → s x y = true) : ∀ {l k : List X}, l.map N = k.map N → sameB s l k = true
  | [], [], _ => rfl
  | [], _ :: _, h => by simp at h
  | _ :: _, [], h => by simp at h
  | x :: l, y :: k, h => by
    simp only [List.map_cons, List.cons.injEq] at h
    simp only [sameB, hs x y h.1, sameB_map hs h.2, Bool.and_self]
theorem mk_inj {l k : List X} (h : Sl.mk l = Sl.mk k) : l = k := by cases h; rfl
theorem sameType_of (x y : LType) (h : asReadT x = asReadT y) : sameType x y = true := by
 obtain ⟨a, b, c, d⟩ := x
 obtain ⟨a', b', c', d'⟩ := y
 simp only [asReadT, LType.mk.injEq] at h
 obtain ⟨rfl, rfl, rfl, h⟩ := h
 simp [sameType, sameL, mk_inj h]
theorem sameIn_of (x y : LIns) (h : asRead x = asRead y) : sameIn x y = true := by
 obtain ⟨a, b, c, d, e, f, g⟩ := x
 obtain ⟨a', b', c', d', e', f', g'⟩ := y
 simp only [asRead, LIns.mk.injEq] at h
 obtain ⟨rfl, rfl, rfl, rfl, rfl, h1, h2⟩ := h
 simp [sameIn, sameL, mk_inj h1, mk_inj h2]
theorem sameEnd_self (e : LEnd) : sameEnd e e = true := by simp [sameEnd]
theorem sameBlock_of (x y : LBlock) (h : asReadB x = asReadB y) : sameBlock x y = true := by
 obtain ⟨a, b⟩ := x
 obtain ⟨a', b'⟩ := y
 simp only [asReadB, LBlock.mk.injEq] at h
 obtain ⟨h1, rfl⟩ := h
 simp only [sameBlock, sameEnd_self, sameB_map sameIn_of (mk_inj h1), Bool.and_self]
theorem sameFn_of (x y : LFunc) (h : asReadF x = asReadF y) : sameFn x y = true := by
 obtain ⟨a, b⟩ := x
 obtain ⟨a', b'⟩ := y
 simp only [asReadF, LFunc.mk.injEq] at h
 obtain ⟨rfl, h1⟩ := h
 simp only [sameFn, sameB_map sameBlock_of (mk_inj h1), Bool.and_true, decide_true]
theorem sameP_of {p q : LProg} (h1 : p.types.list.map asReadT = q.types.list.map asReadT) (h2 : p.funcs.list.map asReadF = q.funcs.list.map asReadF) : sameP p q = true := by
 simp only [sameP, sameB_map sameType_of h1, sameB_map sameFn_of h2, Bool.and_self]
variable {t : List LType}
theorem kindAt_norm (k : Int) : kindAt (t.map asReadT) k = kindAt t k := by
 unfold kindAt
 rw [List.getElem?_map]
 cases t[k.toNat]? <;> rfl
theorem plain3_norm : plain3 (t.map asReadT) = plain3 t := by
 funext k
 unfold plain3
 rw [kindAt_norm, List.length_map]
theorem mayFn3_norm (x : LType) : mayFn3 (t.map asReadT) (asReadT x) = mayFn3 t x := by
 unfold mayFn3
 rw [plain3_norm]; rfl
theorem mayType3_norm (k : Nat) : mayType3 (t.map asReadT) k = mayType3 t k := by
  unfold mayType3
  rw [List.getElem?_map]
  cases h : t[k]? with
  | none => rfl
  | some x =>
    simp only [Option.map_some, mayFn3_norm, List.length_map]
    rfl
theorem ofN_norm : ∀ d k, ofN (t.map asReadT) d k = ofN t d k
  | 0, k => rfl
  | d + 1, k => by
    unfold ofN
    rw [List.getElem?_map]
    cases h : t[k]? with
    | none => rfl
    | some x =>
      have e : (fun p : Int => ofN (t.map asReadT) d p.toNat) = fun p : Int => ofN t d p.toNat := funext fun p => ofN_norm d p.toNat
      simp only [Option.map_some, ofN_norm d]
      rfl
theorem check3_norm : check3 (t.map asReadT) = check3 t := by
 have e : mayT3 (t.map asReadT) = mayT3 t := by
  funext k
  unfold mayT3 ofS
  rw [mayType3_norm, ofN_norm]
 unfold check3
 rw [e, List.length_map]
theorem sigParts_norm (p : LProg) (f : LFunc) : sigParts (normP p) (asReadF f) = sigParts p f := by
 unfold sigParts
 rw [normP_types, List.getElem?_map]
 show (match Option.map asReadT p.types.list[f.sig.toNat]? with | some x => (x.parts.list.length : Int) | none => 0) = _
 cases p.types.list[f.sig.toNat]? <;> rfl
theorem sigKind_norm (p : LProg) (f : LFunc) : sigKind (normP p) (asReadF f) = sigKind p f := by
 unfold sigKind
 rw [normP_types, List.getElem?_map]
 show (match Option.map asReadT p.types.list[f.sig.toNat]? with | some x => x.kind | none => 0) = _
 cases p.types.list[f.sig.toNat]? <;> rfl
theorem many6_norm : ∀ l : List LBlock, many6 (l.map asReadB) = many6 l
  | [] => rfl
  | b :: l => by
    simp only [List.map_cons, many6, many6_norm l, asReadB_ins, List.length_map]
theorem regs6_norm (p : LProg) (f : LFunc) : regs6 (normP p) (asReadF f) = regs6 p f := by
 unfold regs6
 rw [sigParts_norm, asReadF_blocks, many6_norm]
theorem mayBlock6_norm (p : LProg) (f : LFunc) (b : LBlock) : mayBlock6 (normP p) (asReadF f) (asReadB b) = mayBlock6 p f b := by
 unfold mayBlock6
 rw [regs6_norm, asReadF_blocks, asReadB_ins, normP_types, normP_funcs, List.length_map, List.length_map, List.length_map, List.all_map]
 rfl
theorem mayFunc6_norm (p : LProg) (f : LFunc) : mayFunc6 (normP p) (asReadF f) = mayFunc6 p f := by
 unfold mayFunc6 mayFuncA
 rw [sigKind_norm, asReadF_blocks, many6_norm, normP_types, List.length_map, List.length_map, List.all_map]
 have e : (mayBlock6 (normP p) (asReadF f)) ∘ asReadB = mayBlock6 p f := funext fun b => mayBlock6_norm p f b
 rw [e]; rfl
theorem check6_norm (p : LProg) : check6 (normP p) = check6 p := by
 unfold check6
 have e : (mayFunc6 (normP p)) ∘ asReadF = mayFunc6 p := funext fun f => mayFunc6_norm p f
 rw [normP_types, normP_funcs, check3_norm, List.all_map, e, List.length_map]
end Go.Ax
set_option maxRecDepth 20000
noncomputable section
namespace Go.Ax
open Go.Proofs
variable {X Y : Type}
theorem many6_map {f : LBlock → LBlock} (hf : ∀ b, (f b).ins.list.length = b.ins.list.length) : ∀ l : List LBlock, many6 (l.map f) = many6 l
 | [] => rfl
 | b :: l => by simp only [List.map_cons, many6, many6_map hf l, hf b]
def dropF (q : LProg) (f : Int) (l : List Int) : List LFunc := match q.funcs.list[f.toNat]? with
 | some x => setF q f.toNat x ((keptB (cpt l) (sigParts q x) x.blocks.list).map (turnK (dropT (cpt l))))
 | none => []
def swapF (q : LProg) (f a b : Int) : List LFunc := match q.funcs.list[f.toNat]? with
 | some x => setF q f.toNat x (x.blocks.list.map (turnK (swapT a b)))
 | none => []
end Go.Ax
set_option maxRecDepth 20000
noncomputable section
namespace Go.Ax
open Go.Proofs
attribute [local irreducible] TW TO CallsT PureC
variable {F : Nat → Option Obj} {gl : Nat → AV} {K : Knob} {S S' : Nat → Prop} {X : Type}
theorem SmallF.norm {f : LFunc} (h : SmallF f) : SmallF (asReadF f) := by
 refine ⟨by rw [asReadF_blocks, List.length_map]; exact h.nb, by rw [asReadF_blocks, many6_norm]; exact h.many, fun b hb x hx => ?_, fun b hb x hx => ?_⟩
 all_goals
  rw [asReadF_blocks] at hb
  obtain ⟨c, hc, rfl⟩ := List.mem_map.1 hb
  rw [asReadB_ins] at hx
  obtain ⟨y, hy, rfl⟩ := List.mem_map.1 hx
 ·exact h.args c hc y hy
 ·exact h.frm c hc y hy
theorem SmallF.left {x : LFunc} (h : SmallF x) {L : List LBlock} (hl : L.length = x.blocks.list.length) (hm : many6 L ≤ many6 x.blocks.list) (hb : ∀ b ∈ L, ∀ y ∈ b.ins.list, ∃ c ∈ x.blocks.list, ∃ z ∈ c.ins.list, y.args.list.length = z.args.list.length ∧ y.frm.list.length = z.frm.list.length) : SmallF { x with blocks := .mk L } := by
 refine ⟨by show L.length < _; rw [hl]; exact h.nb, by show many6 L < _; have := h.many; omega, fun b hb' y hy => ?_, fun b hb' y hy => ?_⟩
 ·obtain ⟨c, hc, z, hz, e1, e2⟩ := hb b hb' y hy
  rw [e1]; exact h.args c hc z hz
 ·obtain ⟨c, hc, z, hz, e1, e2⟩ := hb b hb' y hy
  rw [e2]; exact h.frm c hc z hz
theorem turnK_len (T : Int → Int) (b : LBlock) : (turnK T b).ins.list.length = b.ins.list.length := by
 show (b.ins.list.map (turnX T)).length = _
 rw [List.length_map]
theorem small_turn {T : Int → Int} {L : List LBlock} {x : LFunc} (h : ∀ b ∈ L, ∀ y ∈ b.ins.list, ∃ c ∈ x.blocks.list, y ∈ c.ins.list) : ∀ b ∈ L.map (turnK T), ∀ y ∈ b.ins.list, ∃ c ∈ x.blocks.list, ∃ z ∈ c.ins.list, y.args.list.length = z.args.list.length ∧ y.frm.list.length = z.frm.list.length := fun b hb y hy => by
 obtain ⟨c, hc, rfl⟩ := List.mem_map.1 hb
 obtain ⟨z, hz, rfl⟩ := List.mem_map.1 (show y ∈ c.ins.list.map (turnX T) from hy)
 obtain ⟨d, hd, hzd⟩ := h c hc z hz
 exact ⟨d, hd, z, hzd, List.length_map .., rfl⟩
theorem small_swap {q : LProg} (h : SmallP q) (f a b : Int) : ∀ x ∈ swapF q f a b, SmallF x := fun x hx => by
 unfold swapF at hx
 split at hx
 ·rename_i y hy
  have hym := List.mem_of_getElem? hy
  unfold setF at hx
  rcases List.mem_or_eq_of_mem_set hx with h1 | rfl
  ·exact h.funcs x h1
  ·exact (h.funcs y hym).left (List.length_map ..) (by rw [many6_map (turnK_len _)]; exact Int.le_refl _) (small_turn fun b hb z hz => ⟨b, hb, hz⟩)
 ·cases hx
theorem swap_nlen (q : LProg) (f a b : Int) : (swapF q f a b).length ≤ q.funcs.list.length := by
 unfold swapF
 split
 ·simp [setF]
 ·simp
theorem SmallP.read {tl : List LType} {fs : List LFunc} (h1 : tl.length < 900000) (h2 : ∀ x ∈ tl, x.parts.list.length < 900000) (h3 : fs.length < 900000) (h4 : ∀ f ∈ fs, SmallF f) : SmallP (asReadP tl fs) := by
 refine ⟨?_, fun x hx => ?_, ?_, fun f hf => ?_⟩
 ·show (tl.map asReadT).length < _
  rwa [List.length_map]
 ·obtain ⟨y, hy, rfl⟩ := List.mem_map.1 (show x ∈ tl.map asReadT from hx)
  exact h2 y hy
 ·show (fs.map asReadF).length < _
  rwa [List.length_map]
 ·obtain ⟨y, hy, rfl⟩ := List.mem_map.1 (show f ∈ fs.map asReadF from hf)
  exact (h4 y hy).norm
def OutA (e : Int) (q : LProg) (v : AV) (h : Hp) (S : Nat → Prop) : Prop :=
 ∃ tv fv fs SF, v = .tup [.agg [tv, fv], .int .i64 e] ∧ (cellsOf tv = some [tv] ∧ isCell tv = true ∧ cellsOf fv = some [fv] ∧ isCell fv = true) ∧ RdF S h 20 (.agg [tv, fv]) (.agg q.cells) ∧ fs.length < 1000000 ∧ (∀ f ∈ fs, BndF f) ∧ SlO AnyF (FunO AnyF) 2 T_func fv fs h SF ∧ ∀ s, SF s → S s
theorem bndF_of {f : LFunc} (h : SmallF f) : BndF f := ⟨by have := h.nb; omega, fun b hb => ⟨by have h1 := h.many; have h2 := many6_mem hb; omega, fun x hx => by have := h.args b hb x hx; show x.args.list.length < _; omega⟩⟩
theorem FunO.any {f : LFunc} {row : List AV} {h : Hp} {S : Nat → Prop} (H : FunO OffF f row h S) : FunO AnyF f row h S := by
 obtain ⟨u, rfl, h2⟩ := H
 exact ⟨u, rfl, h2.any fun _ _ _ _ ⟨w, e, h3⟩ => ⟨w, e, h3.any fun _ _ _ _ h => h⟩⟩
theorem OutA.of {e : Int} {tl : List LType} {fs : List LFunc} {v : AV} {h : Hp} (H : ResV OffF e tl fs v h S) (h3 : fs.length < 900000) (h4 : ∀ f ∈ fs, SmallF f) : (e ≠ 0 → OutA e noP v h S) ∧ (e = 0 → OutA e (asReadP tl fs) v h S) := by
 rcases H with ⟨he, rfl⟩ | ⟨he, tv, fv, ST, SF, rfl, a2, a3, a4, a5⟩
 ·refine ⟨fun _ => ⟨.nilsl, .nilsl, [], fun _ => False, rfl, ⟨rfl, rfl, rfl, rfl⟩, fun g _ => rfl, by simp, nofun, .none, fun _ h => h.elim⟩, fun h => absurd h he⟩
 ·refine ⟨fun h => absurd he h, fun _ => ⟨tv, fv, fs, SF, by rw [he], ⟨a2.len.2.2.2, a2.len.2.2.1, a3.len.2.2.2, a3.len.2.2.1⟩, fun g hg => ?_, by omega, fun f hf => bndF_of (h4 f hf), a3.any fun _ _ _ _ h => h.any, a5⟩⟩
  exact prog_frz (SlO.locl TypO.locl _ g _ ST a2 (fun _ h => h) fun s hs => hg s (a4 s hs).1) (SlO.locl FunO.locl _ g _ SF a3 (fun _ h => h) fun s hs => hg s (a5 s hs)) 14
theorem OutA.locl {e : Int} {q : LProg} {v : AV} : Locl (OutA e q v) := fun h g S S' ⟨tv, fv, fs, SF, h1, h2, h3, h4, h5, h6, h7⟩ hS hg =>
 ⟨tv, fv, fs, SF, h1, h2, h3.mono hS hg, h4, h5, SlO.locl FunO.locl _ _ _ _ h6 (fun _ h => h) fun s hs => hg s (h7 s hs), fun s hs => hS s (h7 s hs)⟩
def outP (e : Int) (tl : List LType) (fs : List LFunc) : LProg := if e = 0 then asReadP tl fs else noP
theorem Swap_tell (hV : Env F gl K) (q : LProg) (f a b : Int) (hs : SmallP q) (ho : OpsP q) (h : Hp) (hlo : h.lo = h.nx) (hw : ∀ r, h.nx ≤ r → h.get r = none) :
  ∃ v h1 S, OutA (swapE q f a b) (outP (swapE q f a b) q.types.list (swapF q f a b)) v h1 S ∧ Wid h h1 ∧ (∀ r, h1.nx ≤ r → h1.get r = none) ∧ (∀ s, S s → h.nx ≤ s ∧ s < h1.nx) ∧ HpLe h h1 ∧ Calling Tryz.prog F h h1 v N_tidy_Swap [.agg q.cells, .int .i64 f, .int .i64 a, .int .i64 b] ∧ h1.lo = h.nx ∧ h.nx < h1.nx := by
 obtain ⟨v, h1, S, a1, a2⟩ := tell_mem (B := fun v => ResV AnyF (swapE q f a b) q.types.list (swapF q f a b) v) ((Swap_mem hV q f a b hs ho .e).mono fun v g ⟨_, hh⟩ => by
  rcases hh with ⟨he, hv⟩ | ⟨he, x, u, hx, ha, hv, tv, fv, ST, SF, hu, b2, b3, b4, b5⟩
  ·exact ⟨fun _ => False, .inl ⟨he, hv⟩⟩
  ·have e : swapF q f a b = setF q f.toNat x (x.blocks.list.map (turnK (swapT a b))) := by unfold swapF; rw [hx]
   exact ⟨fun _ => True, .inr ⟨he, tv, fv, ST, SF, by rw [hv, hu], b2, by rw [e]; exact b3, fun s hs => ⟨trivial, (b4 s hs).2.2⟩, fun _ _ => trivial⟩⟩) (by simp [noRefs, noRef_av nr_type, noRef_av nr_func]) (ResV.rig _ _ _) (ResV.ex _ _ _) (fun v => ResV.locl) h hlo hw
 refine ⟨v, h1, S, ?_, a2⟩
 obtain ⟨k1, k2⟩ := OutA.of a1 (by have := swap_nlen q f a b; have := hs.nf; omega) (small_swap hs f a b)
 unfold outP
 split
 ·exact k2 ‹_›
 ·exact k1 ‹_›
end Go.Ax
set_option maxRecDepth 20000
noncomputable section
namespace Go.Ax
open Go.Proofs
variable {F : Nat → Option Obj} {gl : Nat → AV} {K : Knob} {S S' : Nat → Prop} {X : Type}
theorem small_no : SmallP noP := ⟨by simp [noP, Sl.list], fun x hx => by simp [noP, Sl.list] at hx, by simp [noP, Sl.list], fun x hx => by simp [noP, Sl.list] at hx⟩
theorem small_outP {e : Int} {q : LProg} {fs : List LFunc} (h : SmallP q) (h3 : fs.length < 900000) (h4 : ∀ f ∈ fs, SmallF f) : SmallP (outP e q.types.list fs) := by
 unfold outP
 split
 ·exact SmallP.read (by have := h.nt; omega) (fun x hx => by have := h.parts x hx; omega) h3 h4
 ·exact small_no
theorem same_read {tl : List LType} {fs : List LFunc} {q : LProg} (h1 : tl.map asReadT = q.types.list.map asReadT) (h2 : fs.map asReadF = q.funcs.list.map asReadF) : sameP (asReadP tl fs) q = true := by
 refine sameP_of ?_ ?_
 ·show (tl.map asReadT).map asReadT = _
  rw [map_idem asReadT_idem, h1]
 ·show (fs.map asReadF).map asReadF = _
  rw [map_idem asReadF_idem, h2]
end Go.Ax
namespace Go.Ax
section
variable {H : Type} {enc : TypeId × Value → H} {P : Program} {W : World} {spare : Nat → Bool} {held : Bool} {m : Loc} {fuel : Nat}
theorem Addr.add_block (a : Addr) (n : Nat) : (a.add n).block = a.block := by unfold Addr.add; split <;> rfl
theorem Addr.add_off (a : Addr) (n : Nat) : (a.add n).off = a.off + n := by unfold Addr.add; split <;> simp_all
theorem cell_at {a : Addr} {v : Value} (h : W.cell? a = some v) : ∃ arr e fz, W.heap[a.block]? = some (.cells arr e fz) ∧ a.spot = none ∧ arr[a.off]? = some v := by
 unfold World.cell? at h
 split at h
 ·rename_i c e fz hb
  split at h
  ·cases h
  ·rename_i hs
   exact ⟨c, e, fz, hb, by simpa using hs, h⟩
 ·cases h
def slIf {β : Type} (f : β → List AV) : Option (List β) → AV
 | none => .nilsl
 | some l => .isl (l.map f)
theorem int_rel {t : TypeId} {k : IntKind} {cs : List Value} {x : DataW H × List MemPlace} (ht : P.underlying t = some (.int k)) (h : DataW.trod enc P W 0 spare held fuel t cs = some x) : ∃ n, cs = [.int k n] ∧ (Lit.int k n).wf = true := by
  cases fuel with
  | zero => simp [DataW.trod] at h
  | succ f =>
    unfold DataW.trod at h
    rw [ht] at h
    split at h <;> simp_all
theorem u8_nat {n : Int} (h : (Lit.int .u8 n).wf = true) : ∃ k : Nat, n = .ofNat k ∧ k < 256 := by
 simp [Lit.wf, IntKind.min, IntKind.max, IntKind.signed, IntKind.bits] at h
 exact ⟨n.toNat, by simp; omega, by omega⟩
end
theorem slicesFull {P : Program} (h : ((List.range P.types.size).all fun t => match P.underlying t with | some (.slice e) => decide (0 < P.cellsOf e) | _ => true) = true) : ∀ {t e : TypeId}, t < P.types.size → P.underlying t = some (.slice e) → 0 < P.cellsOf e := fun {t e} hl ht => by
 have := List.all_eq_true.1 h t (List.mem_range.2 hl)
 rw [ht] at this
 simpa using this
theorem trodAll_stays {H : Type} {enc : TypeId × Value → H} {P : Program} {W W' : World} (hl : laidOutB P = true) (hm : mapsRowed P = true) (hz : ((List.range P.types.size).all fun t => match P.underlying t with | some (.slice e) => decide (0 < P.cellsOf e) | _ => true) = true)
    (hb : Go.RowKit.Below W.heap.size W W') : ∀ {ts : List TypeId} {vs : List Value} {ds : List (DataW H)} {ps : List MemPlace}, (∀ t ∈ ts, t < P.types.size) → DataW.TrodAll enc P W 0 (fun _ => true) true ts vs ds ps → (∀ p ∈ ps, p.block < W.heap.size) → DataW.TrodAll enc P W' 0 (fun b => decide (b < W.heap.size)) true ts vs ds ps
  | [], [], [], _, _, h, _ => h
  | t :: ts, v :: vs, d :: ds, _, hT, ⟨p, q, ⟨n, h1⟩, h2, e⟩, hlt => by
    have lt : ∀ x ∈ p, x.block < W.heap.size := fun x hx => hlt x (by rw [e]; exact List.mem_append_left _ hx)
    exact ⟨p, q, ⟨n, DataW.trod_stays (kids_rows hl hm) (slicesFull hz) (fun h => by cases h) (hT t List.mem_cons_self) h1 (fun x hx => hb.same (lt x hx)) (fun x hx => by simpa using lt x hx)⟩,
      trodAll_stays hl hm hz hb (fun t ht => hT t (List.mem_cons_of_mem _ ht)) h2 (fun x hx => hlt x (by rw [e]; exact List.mem_append_right _ hx)), e⟩
  | [], [], _ :: _, _, _, h, _ => by simp [DataW.TrodAll] at h
  | [], _ :: _, _, _, _, h, _ => by simp [DataW.TrodAll] at h
  | _ :: _, [], _, _, _, h, _ => by simp [DataW.TrodAll] at h
  | _ :: _, _ :: _, [], _, _, h, _ => by simp [DataW.TrodAll] at h
end Go.Ax
namespace Go.Ax
section
variable {H : Type} {enc : TypeId × Value → H} {P : Program} {W : World} {spare : Nat → Bool} {held : Bool} {m : Loc} {fuel : Nat}
def OkW (P : Program) (t : TypeId) (d : DataW H) : Prop := ∀ n ∈ d.weights P t, n ≤ reachBytes
theorem weightsAll_mem {e : TypeId} {d : DataW H} {n : Nat} (hn : n ∈ d.weights P e) : ∀ {l : List (DataW H)}, d ∈ l → n ∈ DataW.weightsAll P e l
  | x :: l, h => by
    unfold DataW.weightsAll
    rcases List.mem_cons.1 h with rfl | h
    · exact List.mem_append_left _ hn
    · exact List.mem_append_right _ (weightsAll_mem hn h)
theorem weightsEach_at {n : Nat} : ∀ {ts : List TypeId} {ds : List (DataW H)} (i : Nat) (t : TypeId) (d : DataW H), ts[i]? = some t → ds[i]? = some d → n ∈ d.weights P t → n ∈ DataW.weightsEach P ts ds
  | t :: ts, d :: ds, 0, _, _, ht, hd, h => by
    cases ht; cases hd
    unfold DataW.weightsEach
    exact List.mem_append_left _ h
  | t :: ts, d :: ds, i + 1, _, _, ht, hd, h => by
    unfold DataW.weightsEach
    exact List.mem_append_right _ (weightsEach_at i _ _ (by simpa using ht) (by simpa using hd) h)
  | [], _, i, _, _, ht, _, _ => by simp at ht
  | _ :: _, [], i, _, _, _, hd, _ => by simp at hd
theorem OkW.elem {t e : TypeId} {l k : List (DataW H)} {d : DataW H} (h : OkW P t (.slice l k)) (ht : P.underlying t = some (.slice e)) (hd : d ∈ l) : OkW P e d := fun n hn => h n (by
 unfold DataW.weights
 rw [ht]
 exact List.mem_cons_of_mem _ (List.mem_append_left _ (weightsAll_mem hn hd)))
theorem OkW.len {t e : TypeId} {l k : List (DataW H)} (h : OkW P t (.slice l k)) (ht : P.underlying t = some (.slice e)) : (l.length + k.length) * P.bytesOf e ≤ reachBytes := h _ (by
 unfold DataW.weights
 rw [ht]
 exact List.mem_cons_self)
theorem okW_of {ts : List TypeId} {ds : List (DataW H)} (h : (DataW.weightsEach P ts ds).all (· ≤ reachBytes) = true) {i : Nat} {t : TypeId} {d : DataW H} (ht : ts[i]? = some t) (hd : ds[i]? = some d) : OkW P t d := fun n hn => by
 have := List.all_eq_true.1 h n (weightsEach_at i t d ht hd hn)
 simpa using this
theorem slice_relW {β : Type} {f : β → List AV} {good : β → Prop} {t e : TypeId} {es : Nat} {v : Value} {x : DataW H × List MemPlace} (ht : P.underlying t = some (.slice e)) (hes : P.cellsOf e = es) (hpos : 0 < es)
  (hel : ∀ n cs' y, DataW.trod enc P W 0 spare held n e cs' = some y → OkW P e y.1 → ∃ q : β, good q ∧ LRel P (frozen W) m (f q) cs')
  (h : DataW.trod enc P W 0 spare held fuel t [v] = some x) (hw : OkW P t x.1) : ∃ E : Option (List β), VRel P (frozen W) m (slIf f E) v ∧ (∀ l, E = some l → l.length * P.bytesOf e ≤ reachBytes ∧ ∀ q ∈ l, good q) := by
 rcases Go.Deep.open_slice ht h with ⟨hv, _⟩ | ⟨a, len, cap, k, n, D, Pl, hv, _, hl, _, hk, hxe, hx⟩
 ·cases hv
  exact ⟨none, .nilsl, fun l hl => by cases hl⟩
 ·cases hv
  rw [hes] at hx
  by_cases h0 : len = 0
  ·subst h0
   exact ⟨some [], .isl0 _ _, fun l hl => by cases hl; exact ⟨by simp, fun q hq => by cases hq⟩⟩
  rw [hxe] at hw
  have hkl : len ≤ k := by rw [hk]; split <;> omega
  have hall : ∀ i, i < len → ∃ q cs', good q ∧ LRel P (frozen W) m (f q) cs' ∧ W.cells? 0 (a.add (i * es)) es = some cs' := fun i hi => by
   obtain ⟨cs', h1, h2⟩ := hx i (by omega)
   obtain ⟨q, hq, hr⟩ := hel n cs' _ h2 (hw.elem ht (List.mem_map_of_mem (List.mem_range.2 hi)))
   exact ⟨q, cs', hq, hr, h1⟩
  -- the block
  obtain ⟨q0, cs0, _, _, hc0⟩ := hall 0 (by omega)
  obtain ⟨_, hlen0, hcell0⟩ := World.cells?_some hc0
  have hz := hcell0 0 hpos
  rw [List.getElem?_eq_getElem (by omega)] at hz
  rw [Nat.zero_mul] at hz
  have ha0 : (a.add 0).add 0 = a := by unfold Addr.add; simp
  rw [ha0] at hz
  obtain ⟨arr, e0, fz, hb, hsp, _⟩ := cell_at hz
  -- the elements
  let Q : Nat → β := fun i => if hi : i < len then Classical.choose (hall i hi) else q0
  have hQ : ∀ i, i < len → ∃ cs', good (Q i) ∧ LRel P (frozen W) m (f (Q i)) cs' ∧ W.cells? 0 (a.add (i * es)) es = some cs' := fun i hi => by
   show ∃ cs', good (if hi : i < len then Classical.choose (hall i hi) else q0) ∧ LRel P (frozen W) m (f (if hi : i < len then Classical.choose (hall i hi) else q0)) cs' ∧ _
   rw [dif_pos hi]
   exact Classical.choose_spec (hall i hi)
  have hcell : ∀ i j, i < len → j < es → ∃ x y, (f (Q i))[j]? = some x ∧ arr[a.off + i * es + j]? = some y ∧ VRel P (frozen W) m x y := fun i j hi hj => by
   obtain ⟨cs', _, hr, hc⟩ := hQ i hi
   obtain ⟨_, hlen, hcl⟩ := World.cells?_some hc
   have h1 := hcl j hj
   have hj2 : j < cs'.length := by omega
   rw [List.getElem?_eq_getElem hj2] at h1
   obtain ⟨arr', e', fz', g1, _, g3⟩ := cell_at h1
   rw [Addr.add_block, Addr.add_block, hb] at g1
   cases g1
   rw [Addr.add_off, Addr.add_off] at g3
   have hjf : j < (f (Q i)).length := by rw [hr.len]; exact hj2
   exact ⟨(f (Q i))[j], cs'[j], List.getElem?_eq_getElem hjf, g3, hr.at' j _ _ (List.getElem?_eq_getElem hjf) (List.getElem?_eq_getElem hj2)⟩
  have hflen : ∀ i, i < len → (f (Q i)).length = es := fun i hi => by
   obtain ⟨cs', _, hr, hc⟩ := hQ i hi
   rw [hr.len]; exact (World.cells?_some hc).2.1
  refine ⟨some ((List.range len).map Q), ?_, fun l hl => ?_⟩
  ·have hL : (((List.range len).map Q).map f).length = len := by simp
   have hat : ∀ i c, (((List.range len).map Q).map f)[i]? = some c → i < len ∧ c = f (Q i) := fun i c hc => by
    have hi : i < len := by have := (List.getElem?_eq_some_iff.1 hc).1; rw [hL] at this; exact this
    refine ⟨hi, ?_⟩
    rw [List.getElem?_map, List.getElem?_map, List.getElem?_range hi] at hc
    simpa using hc.symm
   obtain ⟨ab, ao, asp⟩ := a
   dsimp only at hsp hb hcell
   subst hsp
   have := VRel.isl (P := P) (F := frozen W) (m := m) (xs := ((List.range len).map Q).map f) (b := ab) (off := ao) (cap := cap) (arr := arr) (e := e0) (fz := fz) es (fun i j => arr.getD (ao + i * es + j) Go.undef) (.inl hb) (by rw [hL]; exact hl)
    (fun c hc => by
     obtain ⟨i, hi, rfl⟩ := List.getElem_of_mem hc
     obtain ⟨h1, h2⟩ := hat i _ (List.getElem?_eq_getElem hi)
     rw [h2]; exact hflen i h1)
    (fun i j hi hj => by
     rw [hL] at hi
     obtain ⟨x, y, _, hy, _⟩ := hcell i j hi hj
     rw [Array.getD_eq_getD_getElem?, hy]; rfl)
    (fun i j c x hc hx => by
     obtain ⟨h1, rfl⟩ := hat i c hc
     have hj : j < es := by have := (List.getElem?_eq_some_iff.1 hx).1; rw [hflen i h1] at this; exact this
     obtain ⟨x', y, hx', hy, hr⟩ := hcell i j h1 hj
     rw [hx] at hx'
     cases hx'
     rw [Array.getD_eq_getD_getElem?, hy]; exact hr)
   rw [hL] at this
   exact this
  ·cases hl
   refine ⟨?_, fun q hq => ?_⟩
   ·have := hw.len ht
    simp only [List.length_map, List.length_range] at this
    rw [List.length_map, List.length_range]
    exact Nat.le_trans (Nat.mul_le_mul_right _ (by omega)) this
   obtain ⟨i, hi, rfl⟩ := List.mem_map.1 hq
   obtain ⟨_, hg, _⟩ := hQ i (List.mem_range.1 hi)
   exact hg
theorem struct_relW {t : TypeId} {fs : Array Field} {cs : List Value} {x : DataW H × List MemPlace} (ht : P.underlying t = some (.struct fs)) (h : DataW.trod enc P W 0 spare held fuel t cs = some x) (hw : OkW P t x.1) :
  cs.length = P.cellsOf t ∧ ∀ (i : Nat) (f : Field), fs[i]? = some f → ∃ n y, DataW.trod enc P W 0 spare held n f.type ((cs.drop f.offset).take (P.cellsOf f.type)) = some y ∧ OkW P f.type y.1 := by
 obtain ⟨xs, n, _, hx, h1, h2, h3⟩ := DataW.trod_struct ht h
 refine ⟨h1, fun i f hf => ?_⟩
 have hi : i < xs.length := by rw [h2]; exact (Array.getElem?_eq_some_iff.1 hf).1
 refine ⟨n, xs[i], by rw [h3 i f hf, List.getElem?_eq_getElem hi], fun k hk => hw k ?_⟩
 rw [hx]
 unfold DataW.weights
 rw [ht]
 refine weightsEach_at i f.type xs[i].1 ?_ ?_ hk
 ·rw [List.getElem?_map, Array.getElem?_toList, hf]; rfl
 ·rw [List.getElem?_map, List.getElem?_eq_getElem hi]; rfl
end
theorem law_pure {P : Program} {W : World} {f : FuncId} {avs : List AV} {args : Array Value} (hA : LRel P (frozen W) ⟨fun _ => none, fun _ => none⟩ avs args.toList) (h : PureC P (frozen W) f avs (.bool true)) : Calls P f args W fun e W' => e = .returned (.bool true) ∧ Go.RowKit.Below W.heap.size W W' := by
 have h1 := callsIn_wide.1 (h ⟨fun _ => none, fun _ => none⟩ W 0 args (fun b o hb => hb.elim id fun h => by cases h) hA)
 refine h1.mono fun e W' he => ?_
 obtain ⟨cv, fz, rfl, hs, hn, hold, _, _, _, hv⟩ := he
 obtain rfl := hv.bool_inv
 exact ⟨rfl, hs.os, hs.tape, hs.output, hn, fun k hk => hold k hk⟩
end Go.Ax
set_option maxRecDepth 20000
noncomputable section
namespace Go.Ax
open Go.Proofs
theorem cells2 : Tryz.prog.cellsOf 2 = 1 := by kernel_rfl
theorem cells3 : Tryz.prog.cellsOf 3 = 1 := by kernel_rfl
theorem cells5 : Tryz.prog.cellsOf 5 = 1 := by kernel_rfl
theorem cells22 : Tryz.prog.cellsOf 22 = 1 := by kernel_rfl
theorem cells23 : Tryz.prog.cellsOf 23 = 1 := by kernel_rfl
theorem cells25 : Tryz.prog.cellsOf 25 = 2 := by kernel_rfl
theorem cells26 : Tryz.prog.cellsOf 26 = 1 := by kernel_rfl
theorem cells41 : Tryz.prog.cellsOf 41 = 1 := by kernel_rfl
theorem cells43 : Tryz.prog.cellsOf 43 = 2 := by kernel_rfl
theorem cells45 : Tryz.prog.cellsOf 45 = 1 := by kernel_rfl
theorem cells47 : Tryz.prog.cellsOf 47 = 4 := by kernel_rfl
theorem cells49 : Tryz.prog.cellsOf 49 = 5 := by kernel_rfl
theorem cells52 : Tryz.prog.cellsOf 52 = 7 := by kernel_rfl
theorem cells97 : Tryz.prog.cellsOf 97 = 4 := by kernel_rfl
theorem bytes52 : Tryz.prog.bytesOf 52 = 88 := by kernel_rfl
def isL {X : Type} : Option (List X) → Sl X
 | none => .nil
 | some l => .mk l
theorem slIf_av {X : Type} (f : X → List AV) (E : Option (List X)) : slIf f E = (isL E).av f := by cases E <;> rfl
theorem isL_mem {X : Type} {E : Option (List X)} {x : X} (h : x ∈ (isL E).list) : ∃ l, E = some l ∧ x ∈ l := by
 cases E with
 | none => simp [isL, Sl.list] at h
 | some l => exact ⟨l, rfl, h⟩
theorem len2' {α : Type} : ∀ (l : List α), l.length = 2 → ∃ a b, l = [a, b]
 | [a, b], _ => ⟨a, b, rfl⟩
theorem len4' {α : Type} : ∀ (l : List α), l.length = 4 → ∃ a b c d, l = [a, b, c, d]
 | [a, b, c, d], _ => ⟨a, b, c, d, rfl⟩
theorem len5' {α : Type} : ∀ (l : List α), l.length = 5 → ∃ a b c d e, l = [a, b, c, d, e]
 | [a, b, c, d, e], _ => ⟨a, b, c, d, e, rfl⟩
theorem len7' {α : Type} : ∀ (l : List α), l.length = 7 → ∃ a b c d e f g, l = [a, b, c, d, e, f, g]
 | [a, b, c, d, e, f, g], _ => ⟨a, b, c, d, e, f, g, rfl⟩
section
variable {H : Type} {enc : TypeId × Value → H} {W : World} {sp : Nat → Bool} {hd : Bool} {m : Go.Ax.Loc}
theorem ints_rel {n : Nat} {v : Value} {y : DataW H × List MemPlace} (h : DataW.trod enc Tryz.prog W 0 sp hd n 26 [v] = some y) (hw : OkW Tryz.prog 26 y.1) : ∃ l : Sl Int, VRel Tryz.prog (Go.Ax.frozen W) m (l.av cI) v := by
  obtain ⟨E, h1, _⟩ := slice_relW (m := m) (f := cI) (good := fun _ => True) Tryz.underlying26 cells3 (by omega) (fun n cs y h _ => by
    obtain ⟨k, hk, _⟩ := int_rel Tryz.underlying3 h
    subst hk
    exact ⟨k, trivial, .cons (.int _ _) .nil⟩) h hw
  exact ⟨isL E, by rw [← slIf_av]; exact h1⟩
theorem type_rel {n : Nat} {cs : List Value} {y : DataW H × List MemPlace} (h : DataW.trod enc Tryz.prog W 0 sp hd n 97 cs = some y) (hw : OkW Tryz.prog 97 y.1) : ∃ q : LType, LRel Tryz.prog (Go.Ax.frozen W) m q.cells cs := by
 obtain ⟨hl, hf⟩ := struct_relW Tryz.underlying97 h hw
 rw [cells97] at hl
 obtain ⟨c0, c1, c2, c3, rfl⟩ := len4' cs hl
 obtain ⟨n0, y0, h0, w0⟩ : ∃ n y, DataW.trod enc Tryz.prog W 0 sp hd n 5 (([c0, c1, c2, c3].drop 0).take (Tryz.prog.cellsOf 5)) = some y ∧ OkW Tryz.prog 5 y.1 := hf 0 _ rfl
 obtain ⟨n1, y1, h1, w1⟩ : ∃ n y, DataW.trod enc Tryz.prog W 0 sp hd n 3 (([c0, c1, c2, c3].drop 1).take (Tryz.prog.cellsOf 3)) = some y ∧ OkW Tryz.prog 3 y.1 := hf 1 _ rfl
 obtain ⟨n2, y2, h2, w2⟩ : ∃ n y, DataW.trod enc Tryz.prog W 0 sp hd n 3 (([c0, c1, c2, c3].drop 2).take (Tryz.prog.cellsOf 3)) = some y ∧ OkW Tryz.prog 3 y.1 := hf 2 _ rfl
 obtain ⟨n3, y3, h3, w3⟩ : ∃ n y, DataW.trod enc Tryz.prog W 0 sp hd n 26 (([c0, c1, c2, c3].drop 3).take (Tryz.prog.cellsOf 26)) = some y ∧ OkW Tryz.prog 26 y.1 := hf 3 _ rfl
 rw [cells5] at h0
 rw [cells3] at h1 h2
 rw [cells26] at h3
 simp only [List.drop_succ_cons, List.drop_zero, List.take_succ_cons, List.take_zero] at h0 h1 h2 h3
 obtain ⟨k0, e0, _⟩ := int_rel Tryz.underlying5 h0
 obtain ⟨k1, e1, _⟩ := int_rel Tryz.underlying3 h1
 obtain ⟨k2, e2, _⟩ := int_rel Tryz.underlying3 h2
 obtain ⟨l, hr⟩ := ints_rel (m := m) h3 w3
 simp only [List.cons.injEq, and_true] at e0 e1 e2
 subst e0 e1 e2
 exact ⟨⟨k0, k1, k2, l⟩, .cons (.int _ _) (.cons (.int _ _) (.cons (.int _ _) (.cons hr .nil)))⟩
theorem types_rel {n : Nat} {v : Value} {y : DataW H × List MemPlace} (h : DataW.trod enc Tryz.prog W 0 sp hd n 22 [v] = some y) (hw : OkW Tryz.prog 22 y.1) : ∃ l : Sl LType, VRel Tryz.prog (Go.Ax.frozen W) m (l.av LType.cells) v := by
  obtain ⟨E, h1, _⟩ := slice_relW (m := m) (f := LType.cells) (good := fun _ => True) Tryz.underlying22 cells97 (by omega) (fun n cs y h w => by
    obtain ⟨q, hq⟩ := type_rel (m := m) h w
    exact ⟨q, trivial, hq⟩) h hw
  exact ⟨isL E, by rw [← slIf_av]; exact h1⟩
theorem ins_rel {n : Nat} {cs : List Value} {y : DataW H × List MemPlace} (h : DataW.trod enc Tryz.prog W 0 sp hd n 52 cs = some y) (hw : OkW Tryz.prog 52 y.1) : ∃ q : LIns, (0 ≤ q.op ∧ q.op < 256) ∧ LRel Tryz.prog (Go.Ax.frozen W) m q.cells cs := by
 obtain ⟨hl, hf⟩ := struct_relW Tryz.underlying52 h hw
 rw [cells52] at hl
 obtain ⟨c0, c1, c2, c3, c4, c5, c6, rfl⟩ := len7' cs hl
 obtain ⟨n0, y0, h0, w0⟩ : ∃ n y, DataW.trod enc Tryz.prog W 0 sp hd n 5 (([c0, c1, c2, c3, c4, c5, c6].drop 0).take (Tryz.prog.cellsOf 5)) = some y ∧ OkW Tryz.prog 5 y.1 := hf 0 _ rfl
 obtain ⟨n1, y1, h1, w1⟩ : ∃ n y, DataW.trod enc Tryz.prog W 0 sp hd n 3 (([c0, c1, c2, c3, c4, c5, c6].drop 1).take (Tryz.prog.cellsOf 3)) = some y ∧ OkW Tryz.prog 3 y.1 := hf 1 _ rfl
 obtain ⟨n2, y2, h2, w2⟩ : ∃ n y, DataW.trod enc Tryz.prog W 0 sp hd n 3 (([c0, c1, c2, c3, c4, c5, c6].drop 2).take (Tryz.prog.cellsOf 3)) = some y ∧ OkW Tryz.prog 3 y.1 := hf 2 _ rfl
 obtain ⟨n3, y3, h3, w3⟩ : ∃ n y, DataW.trod enc Tryz.prog W 0 sp hd n 3 (([c0, c1, c2, c3, c4, c5, c6].drop 3).take (Tryz.prog.cellsOf 3)) = some y ∧ OkW Tryz.prog 3 y.1 := hf 3 _ rfl
 obtain ⟨n4, y4, h4, w4⟩ : ∃ n y, DataW.trod enc Tryz.prog W 0 sp hd n 2 (([c0, c1, c2, c3, c4, c5, c6].drop 4).take (Tryz.prog.cellsOf 2)) = some y ∧ OkW Tryz.prog 2 y.1 := hf 4 _ rfl
 obtain ⟨n5, y5, h5, w5⟩ : ∃ n y, DataW.trod enc Tryz.prog W 0 sp hd n 26 (([c0, c1, c2, c3, c4, c5, c6].drop 5).take (Tryz.prog.cellsOf 26)) = some y ∧ OkW Tryz.prog 26 y.1 := hf 5 _ rfl
 obtain ⟨n6, y6, h6, w6⟩ : ∃ n y, DataW.trod enc Tryz.prog W 0 sp hd n 26 (([c0, c1, c2, c3, c4, c5, c6].drop 6).take (Tryz.prog.cellsOf 26)) = some y ∧ OkW Tryz.prog 26 y.1 := hf 6 _ rfl
 rw [cells5] at h0
 rw [cells3] at h1 h2 h3
 rw [cells2] at h4
 rw [cells26] at h5 h6
 simp only [List.drop_succ_cons, List.drop_zero, List.take_succ_cons, List.take_zero] at h0 h1 h2 h3 h4 h5 h6
 obtain ⟨k0, e0, ww⟩ := int_rel Tryz.underlying5 h0
 obtain ⟨k1, e1, _⟩ := int_rel Tryz.underlying3 h1
 obtain ⟨k2, e2, _⟩ := int_rel Tryz.underlying3 h2
 obtain ⟨k3, e3, _⟩ := int_rel Tryz.underlying3 h3
 obtain ⟨k4, e4, _⟩ := int_rel Tryz.underlying2 h4
 obtain ⟨l5, hr5⟩ := ints_rel (m := m) h5 w5
 obtain ⟨l6, hr6⟩ := ints_rel (m := m) h6 w6
 simp only [List.cons.injEq, and_true] at e0 e1 e2 e3 e4
 subst e0 e1 e2 e3 e4
 obtain ⟨k, rfl, hk⟩ := u8_nat ww
 exact ⟨⟨.ofNat k, k1, k2, k3, k4, l5, l6⟩, ⟨by simp, by simp; omega⟩, .cons (.int _ _) (.cons (.int _ _) (.cons (.int _ _) (.cons (.int _ _) (.cons (.int _ _) (.cons hr5 (.cons hr6 .nil))))))⟩
def goodB (b : LBlock) : Prop := b.ins.list.length < 4611686018427387904 ∧ ∀ x ∈ b.ins.list, 0 ≤ x.op ∧ x.op < 256
theorem block_rel {n : Nat} {cs : List Value} {y : DataW H × List MemPlace} (h : DataW.trod enc Tryz.prog W 0 sp hd n 49 cs = some y) (hw : OkW Tryz.prog 49 y.1) : ∃ q : LBlock, goodB q ∧ LRel Tryz.prog (Go.Ax.frozen W) m q.cells cs := by
  obtain ⟨hl, hf⟩ := struct_relW Tryz.underlying49 h hw
  rw [cells49] at hl
  obtain ⟨c0, c1, c2, c3, c4, rfl⟩ := len5' cs hl
  obtain ⟨n0, y0, h0, w0⟩ : ∃ n y, DataW.trod enc Tryz.prog W 0 sp hd n 45 (([c0, c1, c2, c3, c4].drop 0).take (Tryz.prog.cellsOf 45)) = some y ∧ OkW Tryz.prog 45 y.1 := hf 0 _ rfl
  obtain ⟨n1, y1, h1, w1⟩ : ∃ n y, DataW.trod enc Tryz.prog W 0 sp hd n 47 (([c0, c1, c2, c3, c4].drop 1).take (Tryz.prog.cellsOf 47)) = some y ∧ OkW Tryz.prog 47 y.1 := hf 1 _ rfl
  rw [cells45] at h0
  rw [cells47] at h1
  simp only [List.drop_succ_cons, List.drop_zero, List.take_succ_cons, List.take_zero, List.take_nil] at h0 h1
  obtain ⟨E, hE, gE⟩ := slice_relW (m := m) (f := LIns.cells) (good := fun q => 0 ≤ q.op ∧ q.op < 256) Tryz.underlying45 cells52 (by omega) (fun n cs y h w => ins_rel (m := m) h w) h0 w0
  obtain ⟨_, hf1⟩ := struct_relW Tryz.underlying47 h1 w1
  obtain ⟨m0, z0, g0, _⟩ : ∃ n y, DataW.trod enc Tryz.prog W 0 sp hd n 5 (([c1, c2, c3, c4].drop 0).take (Tryz.prog.cellsOf 5)) = some y ∧ OkW Tryz.prog 5 y.1 := hf1 0 _ rfl
  obtain ⟨m1, z1, g1, _⟩ : ∃ n y, DataW.trod enc Tryz.prog W 0 sp hd n 3 (([c1, c2, c3, c4].drop 1).take (Tryz.prog.cellsOf 3)) = some y ∧ OkW Tryz.prog 3 y.1 := hf1 1 _ rfl
  obtain ⟨m2, z2, g2, _⟩ : ∃ n y, DataW.trod enc Tryz.prog W 0 sp hd n 3 (([c1, c2, c3, c4].drop 2).take (Tryz.prog.cellsOf 3)) = some y ∧ OkW Tryz.prog 3 y.1 := hf1 2 _ rfl
  obtain ⟨m3, z3, g3, _⟩ : ∃ n y, DataW.trod enc Tryz.prog W 0 sp hd n 3 (([c1, c2, c3, c4].drop 3).take (Tryz.prog.cellsOf 3)) = some y ∧ OkW Tryz.prog 3 y.1 := hf1 3 _ rfl
  rw [cells5] at g0
  rw [cells3] at g1 g2 g3
  simp only [List.drop_succ_cons, List.drop_zero, List.take_succ_cons, List.take_zero] at g0 g1 g2 g3
  obtain ⟨k0, e0, _⟩ := int_rel Tryz.underlying5 g0
  obtain ⟨k1, e1, _⟩ := int_rel Tryz.underlying3 g1
  obtain ⟨k2, e2, _⟩ := int_rel Tryz.underlying3 g2
  obtain ⟨k3, e3, _⟩ := int_rel Tryz.underlying3 g3
  simp only [List.cons.injEq, and_true] at e0 e1 e2 e3
  subst e0 e1 e2 e3
  rw [slIf_av] at hE
  refine ⟨⟨isL E, ⟨k0, k1, k2, k3⟩⟩, ⟨?_, fun x hx => ?_⟩, .cons hE (.cons (.int _ _) (.cons (.int _ _) (.cons (.int _ _) (.cons (.int _ _) .nil))))⟩
  · cases E with
    | none => simp [isL, Sl.list]
    | some l =>
      have := (gE l rfl).1
      rw [bytes52] at this
      simp only [reachBytes] at this
      show l.length < _
      omega
  · obtain ⟨l, hl, hxl⟩ := isL_mem hx
    exact (gE l hl).2 x hxl
theorem func_rel {n : Nat} {cs : List Value} {y : DataW H × List MemPlace} (h : DataW.trod enc Tryz.prog W 0 sp hd n 43 cs = some y) (hw : OkW Tryz.prog 43 y.1) : ∃ q : LFunc, (∀ b ∈ q.blocks.list, goodB b) ∧ LRel Tryz.prog (Go.Ax.frozen W) m q.cells cs := by
 obtain ⟨hl, hf⟩ := struct_relW Tryz.underlying43 h hw
 rw [cells43] at hl
 obtain ⟨c0, c1, rfl⟩ := len2' cs hl
 obtain ⟨n0, y0, h0, w0⟩ : ∃ n y, DataW.trod enc Tryz.prog W 0 sp hd n 3 (([c0, c1].drop 0).take (Tryz.prog.cellsOf 3)) = some y ∧ OkW Tryz.prog 3 y.1 := hf 0 _ rfl
 obtain ⟨n1, y1, h1, w1⟩ : ∃ n y, DataW.trod enc Tryz.prog W 0 sp hd n 41 (([c0, c1].drop 1).take (Tryz.prog.cellsOf 41)) = some y ∧ OkW Tryz.prog 41 y.1 := hf 1 _ rfl
 rw [cells3] at h0
 rw [cells41] at h1
 simp only [List.drop_succ_cons, List.drop_zero, List.take_succ_cons, List.take_zero] at h0 h1
 obtain ⟨k0, e0, _⟩ := int_rel Tryz.underlying3 h0
 simp only [List.cons.injEq, and_true] at e0
 subst e0
 obtain ⟨E, hE, gE⟩ := slice_relW (m := m) (f := LBlock.cells) (good := goodB) Tryz.underlying41 cells49 (by omega) (fun n cs y h w => block_rel (m := m) h w) h1 w1
 rw [slIf_av] at hE
 refine ⟨⟨k0, isL E⟩, fun b hb => ?_, .cons (.int _ _) (.cons hE .nil)⟩
 obtain ⟨l, hl, hxl⟩ := isL_mem hb
 exact (gE l hl).2 b hxl
def goodP (p : LProg) : Prop := ∀ f ∈ p.funcs.list, ∀ b ∈ f.blocks.list, goodB b
theorem prog_rel {v : Value} {d : DataW H} {pl : List MemPlace} (h : DataW.Trod enc Tryz.prog W 0 sp hd 25 v d pl) (hw : OkW Tryz.prog 25 d) : ∃ p : LProg, goodP p ∧ VRel Tryz.prog (Go.Ax.frozen W) m (.agg p.cells) v := by
 obtain ⟨n, h⟩ := h
 obtain ⟨hl, hf⟩ := struct_relW Tryz.underlying25 h hw
 rw [cells25] at hl
 have hv : ∃ a, v = .agg a := by
  cases v <;> first | exact ⟨_, rfl⟩ | (simp [Value.cells] at hl)
 obtain ⟨a, rfl⟩ := hv
 have hl : a.toList.length = 2 := hl
 obtain ⟨n0, y0, h0, w0⟩ : ∃ n y, DataW.trod enc Tryz.prog W 0 sp hd n 22 ((a.toList.drop 0).take (Tryz.prog.cellsOf 22)) = some y ∧ OkW Tryz.prog 22 y.1 := hf 0 _ rfl
 obtain ⟨n1, y1, h1, w1⟩ : ∃ n y, DataW.trod enc Tryz.prog W 0 sp hd n 23 ((a.toList.drop 1).take (Tryz.prog.cellsOf 23)) = some y ∧ OkW Tryz.prog 23 y.1 := hf 1 _ rfl
 clear hf h
 rw [cells22] at h0
 rw [cells23] at h1
 suffices key : ∃ p : LProg, goodP p ∧ LRel Tryz.prog (Go.Ax.frozen W) m p.cells a.toList by
  obtain ⟨p, h1, h2⟩ := key
  exact ⟨p, h1, LRel.agg h2⟩
 generalize a.toList = cs at hl h0 h1
 obtain ⟨c0, c1, rfl⟩ := len2' cs hl
 simp only [List.drop_succ_cons, List.drop_zero, List.take_succ_cons, List.take_zero] at h0 h1
 obtain ⟨t, ht⟩ := types_rel (m := m) h0 w0
 obtain ⟨E, hE, gE⟩ := slice_relW (m := m) (f := LFunc.cells) (good := fun q => ∀ b ∈ q.blocks.list, goodB b) Tryz.underlying23 cells43 (by omega) (fun n cs y h w => func_rel (m := m) h w) h1 w1
 rw [slIf_av] at hE
 refine ⟨⟨t, isL E⟩, fun f hf => ?_, .cons ht (.cons hE .nil)⟩
 obtain ⟨l, hl, hxl⟩ := isL_mem hf
 exact (gE l hl).2 f hxl
theorem goodP.ops {p : LProg} (h : goodP p) : OpsP p := ⟨fun f hf => ⟨fun b hb x hx => (h f hf b hb).2 x hx⟩⟩
end
end Go.Ax
set_option maxRecDepth 20000
noncomputable section
namespace Go.Ax
open Go.Proofs
attribute [local irreducible] TW TO CallsT PureC
variable {F : Nat → Option Obj} {gl : Nat → AV} {K : Knob} {S S' : Nat → Prop} {X : Type}
set_option maxHeartbeats 1000000 in
theorem EqualFunc_Ins (hP : POk Tryz.prog F gl K) (a b : Sl LIns) (g : FuncId) (cap : List AV) (p : LIns → LIns → Bool) (hg : IsFn Tryz.prog g) (h : Hp) (hlen : a.list.length < 1000000)
  (hc : ∀ x ∈ a.list, ∀ y, ∀ h', Wid h h' → Qt Tryz.prog F h' (.bool (p x y)) g ([.agg x.cells, .agg y.cells] ++ cap)) :
  Qt Tryz.prog F h (.bool (sameB p a.list b.list)) N_slices_EqualFunc_api_Ins_api_Ins_api_Ins_api_Ins [a.av LIns.cells, b.av LIns.cells, .fn (.func g) [] cap] := by
 refine CallsT.body hP nix_sound E_slices_EqualFunc_api_Ins_api_Ins_api_Ins_api_Ins rfl rfl ?_
 by_cases hl : a.list.length = b.list.length
 ·repeat' first | refine TW.seq ?_ | refine TW.block ?_ | refine TW.skip ?_ | refine TW.condF hP rfl ?_ | (refine TW.regG hP (by simp [hl] <;> rfl) ?_; dsimp only [goK])
  refine TW.loopL (fun i : Nat => [(0, a.av LIns.cells), (1, b.av LIns.cells), (2, .fn (.func g) [] cap), (6, .bool false), (15, a.av LIns.cells), (16, .int .i64 a.list.length), (17, .int .i64 i)]) (fun i k => i ≤ a.list.length ∧ Wid h k ∧ ∀ (j : Nat) (x y : LIns), j < i → a.list[j]? = some x → b.list[j]? = some y → p x y = true) (fun i => a.list.length - i) (0) ?_ ?_ ?_
  focus (repeat' first | exact less_nil | refine less_cons (by simp [hl]) ?_)
  ·exact ⟨Nat.zero_le _, .refl _, fun j x y hj => absurd hj (Nat.not_lt_zero _)⟩
  rintro i k ⟨hi, hw, hall⟩
  repeat' first | refine TW.seq ?_ | (refine TW.regG hP (by simp <;> rfl) ?_; dsimp only [goK])
  refine TW.cond hP rfl (fun hc' => TW.skip ?_) (fun hc' => TW.exit ?_)
  ·simp at hc'
   obtain ⟨x, hx⟩ := get_of_lt hc'
   obtain ⟨y, hy⟩ := get_of_lt (show i < b.list.length by omega)
   have hav := av_pos (e := LIns.cells) (show 0 < a.list.length by omega)
   have hbv := av_pos (e := LIns.cells) (show 0 < b.list.length by omega)
   have bad := bad_of (p := p) hl hx hy
   have hwn := hw.nx
   dsimp only [thenQ]
   repeat' first | refine TW.seq ?_ | refine TW.block ?_ | (refine TW.regG hP (by simp [hx, hy, hav, hbv] <;> rfl) ?_; dsimp only [goK])
   refine TO.qcall hP hg (hc x (List.mem_of_getElem? hx) y _ ?_) (by simp) rfl rfl rfl rfl fun k' hk' => ?_
   ·refine Wid.put (Wid.new (Wid.put (Wid.new hw _) ?_ _) _) ?_ _ <;> first | omega
   refine TO.runsG hP (by simp <;> rfl) ?_
   dsimp only [goK, thenQ]
   have hw' : Wid h k' := by
    refine Wid.trans ?_ hk'
    refine Wid.put (Wid.new (Wid.put (Wid.new hw _) ?_ _) _) ?_ _ <;> first | omega
   refine TW.cond hP rfl (fun hp => ?_) (fun hp => TW.skip ?_)
   ·simp at hp
    refine TW.seq (TW.reg hP (by simp <;> rfl) ?_)
    dsimp only [goK, thenQ, blockQ, roundL]
    refine TW.ret ⟨.inr rfl, k', _, rfl, rfl, ?_, hw'⟩
    exact bad hp
   ·simp at hp
    dsimp only [blockQ, thenQ]
    repeat' first | (refine TW.regG hP (by simp <;> rfl) ?_; dsimp only [goK]) | simp only [roundL]
    refine ⟨i + 1, by omega, trivial, ?_, by omega, hw', all_next hx hy hall hp⟩
    repeat' first | exact less_nil | refine less_cons (by simp [hav, hbv, w64s (show i < 9000000000000000000 by omega)]) ?_
  ·simp at hc'
   dsimp only [thenQ, blockQ, roundL]
   repeat' first | refine TW.seq ?_ | (refine TW.regG hP (by simp <;> rfl) ?_; dsimp only [goK]) | simp only [thenQ]
   refine TW.ret ⟨.inr rfl, k, _, rfl, rfl, ?_, hw⟩
   dsimp only [tupOf]
   rw [(sameB_of hl).1 fun j x y hx hy => hall j x y (by have := (List.getElem?_eq_some_iff.1 hx).1; omega) hx hy]
 ·repeat' first | refine TW.seq ?_ | refine TW.block ?_ | refine TW.skip ?_ | (refine TW.regG hP (by simp <;> rfl) ?_; dsimp only [goK]) | simp only [thenQ] | (refine TW.cond hP rfl (fun hc => ?_) (fun hc => ?_) <;> simp at hc) | (refine TW.ret ⟨.inr rfl, _, _, rfl, rfl, ?_⟩; dsimp only [tupOf])
  ·exact ⟨by rw [sameB_len hl], .refl _⟩
  ·exfalso; omega
set_option maxHeartbeats 1000000 in
theorem EqualFunc_Block (hP : POk Tryz.prog F gl K) (a b : Sl LBlock) (g : FuncId) (cap : List AV) (p : LBlock → LBlock → Bool) (hg : IsFn Tryz.prog g) (h : Hp) (hlen : a.list.length < 1000000)
  (hc : ∀ x ∈ a.list, ∀ y, ∀ h', Wid h h' → Qt Tryz.prog F h' (.bool (p x y)) g ([.agg x.cells, .agg y.cells] ++ cap)) :
  Qt Tryz.prog F h (.bool (sameB p a.list b.list)) N_slices_EqualFunc_api_Block_api_Block_api_Block_api_Block [a.av LBlock.cells, b.av LBlock.cells, .fn (.func g) [] cap] := by
 refine CallsT.body hP nix_sound E_slices_EqualFunc_api_Block_api_Block_api_Block_api_Block rfl rfl ?_
 by_cases hl : a.list.length = b.list.length
 ·repeat' first | refine TW.seq ?_ | refine TW.block ?_ | refine TW.skip ?_ | refine TW.condF hP rfl ?_ | (refine TW.regG hP (by simp [hl] <;> rfl) ?_; dsimp only [goK])
  refine TW.loopL (fun i : Nat => [(0, a.av LBlock.cells), (1, b.av LBlock.cells), (2, .fn (.func g) [] cap), (6, .bool false), (15, a.av LBlock.cells), (16, .int .i64 a.list.length), (17, .int .i64 i)]) (fun i k => i ≤ a.list.length ∧ Wid h k ∧ ∀ (j : Nat) (x y : LBlock), j < i → a.list[j]? = some x → b.list[j]? = some y → p x y = true) (fun i => a.list.length - i) (0) ?_ ?_ ?_
  focus (repeat' first | exact less_nil | refine less_cons (by simp [hl]) ?_)
  ·exact ⟨Nat.zero_le _, .refl _, fun j x y hj => absurd hj (Nat.not_lt_zero _)⟩
  rintro i k ⟨hi, hw, hall⟩
  repeat' first | refine TW.seq ?_ | (refine TW.regG hP (by simp <;> rfl) ?_; dsimp only [goK])
  refine TW.cond hP rfl (fun hc' => TW.skip ?_) (fun hc' => TW.exit ?_)
  ·simp at hc'
   obtain ⟨x, hx⟩ := get_of_lt hc'
   obtain ⟨y, hy⟩ := get_of_lt (show i < b.list.length by omega)
   have hav := av_pos (e := LBlock.cells) (show 0 < a.list.length by omega)
   have hbv := av_pos (e := LBlock.cells) (show 0 < b.list.length by omega)
   have bad := bad_of (p := p) hl hx hy
   have hwn := hw.nx
   dsimp only [thenQ]
   repeat' first | refine TW.seq ?_ | refine TW.block ?_ | (refine TW.regG hP (by simp [hx, hy, hav, hbv] <;> rfl) ?_; dsimp only [goK])
   refine TO.qcall hP hg (hc x (List.mem_of_getElem? hx) y _ ?_) (by simp) rfl rfl rfl rfl fun k' hk' => ?_
   ·refine Wid.put (Wid.new (Wid.put (Wid.new hw _) ?_ _) _) ?_ _ <;> first | omega
   refine TO.runsG hP (by simp <;> rfl) ?_
   dsimp only [goK, thenQ]
   have hw' : Wid h k' := by
    refine Wid.trans ?_ hk'
    refine Wid.put (Wid.new (Wid.put (Wid.new hw _) ?_ _) _) ?_ _ <;> first | omega
   refine TW.cond hP rfl (fun hp => ?_) (fun hp => TW.skip ?_)
   ·simp at hp
    refine TW.seq (TW.reg hP (by simp <;> rfl) ?_)
    dsimp only [goK, thenQ, blockQ, roundL]
    refine TW.ret ⟨.inr rfl, k', _, rfl, rfl, ?_, hw'⟩
    exact bad hp
   ·simp at hp
    dsimp only [blockQ, thenQ]
    repeat' first | (refine TW.regG hP (by simp <;> rfl) ?_; dsimp only [goK]) | simp only [roundL]
    refine ⟨i + 1, by omega, trivial, ?_, by omega, hw', all_next hx hy hall hp⟩
    repeat' first | exact less_nil | refine less_cons (by simp [hav, hbv, w64s (show i < 9000000000000000000 by omega)]) ?_
  ·simp at hc'
   dsimp only [thenQ, blockQ, roundL]
   repeat' first | refine TW.seq ?_ | (refine TW.regG hP (by simp <;> rfl) ?_; dsimp only [goK]) | simp only [thenQ]
   refine TW.ret ⟨.inr rfl, k, _, rfl, rfl, ?_, hw⟩
   dsimp only [tupOf]
   rw [(sameB_of hl).1 fun j x y hx hy => hall j x y (by have := (List.getElem?_eq_some_iff.1 hx).1; omega) hx hy]
 ·repeat' first | refine TW.seq ?_ | refine TW.block ?_ | refine TW.skip ?_ | (refine TW.regG hP (by simp <;> rfl) ?_; dsimp only [goK]) | simp only [thenQ] | (refine TW.cond hP rfl (fun hc => ?_) (fun hc => ?_) <;> simp at hc) | (refine TW.ret ⟨.inr rfl, _, _, rfl, rfl, ?_⟩; dsimp only [tupOf])
  ·exact ⟨by rw [sameB_len hl], .refl _⟩
  ·exfalso; omega
set_option maxHeartbeats 1000000 in
theorem EqualFunc_Func (hP : POk Tryz.prog F gl K) (a b : Sl LFunc) (g : FuncId) (cap : List AV) (p : LFunc → LFunc → Bool) (hg : IsFn Tryz.prog g) (h : Hp) (hlen : a.list.length < 1000000)
  (hc : ∀ x ∈ a.list, ∀ y, ∀ h', Wid h h' → Qt Tryz.prog F h' (.bool (p x y)) g ([.agg x.cells, .agg y.cells] ++ cap)) :
  Qt Tryz.prog F h (.bool (sameB p a.list b.list)) N_slices_EqualFunc_api_Func_api_Func_api_Func_api_Func [a.av LFunc.cells, b.av LFunc.cells, .fn (.func g) [] cap] := by
 refine CallsT.body hP nix_sound E_slices_EqualFunc_api_Func_api_Func_api_Func_api_Func rfl rfl ?_
 by_cases hl : a.list.length = b.list.length
 ·repeat' first | refine TW.seq ?_ | refine TW.block ?_ | refine TW.skip ?_ | refine TW.condF hP rfl ?_ | (refine TW.regG hP (by simp [hl] <;> rfl) ?_; dsimp only [goK])
  refine TW.loopL (fun i : Nat => [(0, a.av LFunc.cells), (1, b.av LFunc.cells), (2, .fn (.func g) [] cap), (6, .bool false), (15, a.av LFunc.cells), (16, .int .i64 a.list.length), (17, .int .i64 i)]) (fun i k => i ≤ a.list.length ∧ Wid h k ∧ ∀ (j : Nat) (x y : LFunc), j < i → a.list[j]? = some x → b.list[j]? = some y → p x y = true) (fun i => a.list.length - i) (0) ?_ ?_ ?_
  focus (repeat' first | exact less_nil | refine less_cons (by simp [hl]) ?_)
  ·exact ⟨Nat.zero_le _, .refl _, fun j x y hj => absurd hj (Nat.not_lt_zero _)⟩
  rintro i k ⟨hi, hw, hall⟩
  repeat' first | refine TW.seq ?_ | (refine TW.regG hP (by simp <;> rfl) ?_; dsimp only [goK])
  refine TW.cond hP rfl (fun hc' => TW.skip ?_) (fun hc' => TW.exit ?_)
  ·simp at hc'
   obtain ⟨x, hx⟩ := get_of_lt hc'
   obtain ⟨y, hy⟩ := get_of_lt (show i < b.list.length by omega)
   have hav := av_pos (e := LFunc.cells) (show 0 < a.list.length by omega)
   have hbv := av_pos (e := LFunc.cells) (show 0 < b.list.length by omega)
   have bad := bad_of (p := p) hl hx hy
   have hwn := hw.nx
   dsimp only [thenQ]
   repeat' first | refine TW.seq ?_ | refine TW.block ?_ | (refine TW.regG hP (by simp [hx, hy, hav, hbv] <;> rfl) ?_; dsimp only [goK])
   refine TO.qcall hP hg (hc x (List.mem_of_getElem? hx) y _ ?_) (by simp) rfl rfl rfl rfl fun k' hk' => ?_
   ·refine Wid.put (Wid.new (Wid.put (Wid.new hw _) ?_ _) _) ?_ _ <;> first | omega
   refine TO.runsG hP (by simp <;> rfl) ?_
   dsimp only [goK, thenQ]
   have hw' : Wid h k' := by
    refine Wid.trans ?_ hk'
    refine Wid.put (Wid.new (Wid.put (Wid.new hw _) ?_ _) _) ?_ _ <;> first | omega
   refine TW.cond hP rfl (fun hp => ?_) (fun hp => TW.skip ?_)
   ·simp at hp
    refine TW.seq (TW.reg hP (by simp <;> rfl) ?_)
    dsimp only [goK, thenQ, blockQ, roundL]
    refine TW.ret ⟨.inr rfl, k', _, rfl, rfl, ?_, hw'⟩
    exact bad hp
   ·simp at hp
    dsimp only [blockQ, thenQ]
    repeat' first | (refine TW.regG hP (by simp <;> rfl) ?_; dsimp only [goK]) | simp only [roundL]
    refine ⟨i + 1, by omega, trivial, ?_, by omega, hw', all_next hx hy hall hp⟩
    repeat' first | exact less_nil | refine less_cons (by simp [hav, hbv, w64s (show i < 9000000000000000000 by omega)]) ?_
  ·simp at hc'
   dsimp only [thenQ, blockQ, roundL]
   repeat' first | refine TW.seq ?_ | (refine TW.regG hP (by simp <;> rfl) ?_; dsimp only [goK]) | simp only [thenQ]
   refine TW.ret ⟨.inr rfl, k, _, rfl, rfl, ?_, hw⟩
   dsimp only [tupOf]
   rw [(sameB_of hl).1 fun j x y hx hy => hall j x y (by have := (List.getElem?_eq_some_iff.1 hx).1; omega) hx hy]
 ·repeat' first | refine TW.seq ?_ | refine TW.block ?_ | refine TW.skip ?_ | (refine TW.regG hP (by simp <;> rfl) ?_; dsimp only [goK]) | simp only [thenQ] | (refine TW.cond hP rfl (fun hc => ?_) (fun hc => ?_) <;> simp at hc) | (refine TW.ret ⟨.inr rfl, _, _, rfl, rfl, ?_⟩; dsimp only [tupOf])
  ·exact ⟨by rw [sameB_len hl], .refl _⟩
  ·exfalso; omega
set_option maxHeartbeats 1000000 in
theorem EqualFunc_Type (hP : POk Tryz.prog F gl K) (a b : Sl LType) (g : FuncId) (cap : List AV) (p : LType → LType → Bool) (hg : IsFn Tryz.prog g) (h : Hp) (hlen : a.list.length < 1000000)
  (hc : ∀ x ∈ a.list, ∀ y, ∀ h', Wid h h' → Qt Tryz.prog F h' (.bool (p x y)) g ([.agg x.cells, .agg y.cells] ++ cap)) :
  Qt Tryz.prog F h (.bool (sameB p a.list b.list)) N_slices_EqualFunc_api_Type_api_Type_api_Type_api_Type [a.av LType.cells, b.av LType.cells, .fn (.func g) [] cap] := by
 refine CallsT.body hP nix_sound E_slices_EqualFunc_api_Type_api_Type_api_Type_api_Type rfl rfl ?_
 by_cases hl : a.list.length = b.list.length
 ·repeat' first | refine TW.seq ?_ | refine TW.block ?_ | refine TW.skip ?_ | refine TW.condF hP rfl ?_ | (refine TW.regG hP (by simp [hl] <;> rfl) ?_; dsimp only [goK])
  refine TW.loopL (fun i : Nat => [(0, a.av LType.cells), (1, b.av LType.cells), (2, .fn (.func g) [] cap), (6, .bool false), (15, a.av LType.cells), (16, .int .i64 a.list.length), (17, .int .i64 i)]) (fun i k => i ≤ a.list.length ∧ Wid h k ∧ ∀ (j : Nat) (x y : LType), j < i → a.list[j]? = some x → b.list[j]? = some y → p x y = true) (fun i => a.list.length - i) (0) ?_ ?_ ?_
  focus (repeat' first | exact less_nil | refine less_cons (by simp [hl]) ?_)
  ·exact ⟨Nat.zero_le _, .refl _, fun j x y hj => absurd hj (Nat.not_lt_zero _)⟩
  rintro i k ⟨hi, hw, hall⟩
  repeat' first | refine TW.seq ?_ | (refine TW.regG hP (by simp <;> rfl) ?_; dsimp only [goK])
  refine TW.cond hP rfl (fun hc' => TW.skip ?_) (fun hc' => TW.exit ?_)
  ·simp at hc'
   obtain ⟨x, hx⟩ := get_of_lt hc'
   obtain ⟨y, hy⟩ := get_of_lt (show i < b.list.length by omega)
   have hav := av_pos (e := LType.cells) (show 0 < a.list.length by omega)
   have hbv := av_pos (e := LType.cells) (show 0 < b.list.length by omega)
   have bad := bad_of (p := p) hl hx hy
   have hwn := hw.nx
   dsimp only [thenQ]
   repeat' first | refine TW.seq ?_ | refine TW.block ?_ | (refine TW.regG hP (by simp [hx, hy, hav, hbv] <;> rfl) ?_; dsimp only [goK])
   refine TO.qcall hP hg (hc x (List.mem_of_getElem? hx) y _ ?_) (by simp) rfl rfl rfl rfl fun k' hk' => ?_
   ·refine Wid.put (Wid.new (Wid.put (Wid.new hw _) ?_ _) _) ?_ _ <;> first | omega
   refine TO.runsG hP (by simp <;> rfl) ?_
   dsimp only [goK, thenQ]
   have hw' : Wid h k' := by
    refine Wid.trans ?_ hk'
    refine Wid.put (Wid.new (Wid.put (Wid.new hw _) ?_ _) _) ?_ _ <;> first | omega
   refine TW.cond hP rfl (fun hp => ?_) (fun hp => TW.skip ?_)
   ·simp at hp
    refine TW.seq (TW.reg hP (by simp <;> rfl) ?_)
    dsimp only [goK, thenQ, blockQ, roundL]
    refine TW.ret ⟨.inr rfl, k', _, rfl, rfl, ?_, hw'⟩
    exact bad hp
   ·simp at hp
    dsimp only [blockQ, thenQ]
    repeat' first | (refine TW.regG hP (by simp <;> rfl) ?_; dsimp only [goK]) | simp only [roundL]
    refine ⟨i + 1, by omega, trivial, ?_, by omega, hw', all_next hx hy hall hp⟩
    repeat' first | exact less_nil | refine less_cons (by simp [hav, hbv, w64s (show i < 9000000000000000000 by omega)]) ?_
  ·simp at hc'
   dsimp only [thenQ, blockQ, roundL]
   repeat' first | refine TW.seq ?_ | (refine TW.regG hP (by simp <;> rfl) ?_; dsimp only [goK]) | simp only [thenQ]
   refine TW.ret ⟨.inr rfl, k, _, rfl, rfl, ?_, hw⟩
   dsimp only [tupOf]
   rw [(sameB_of hl).1 fun j x y hx hy => hall j x y (by have := (List.getElem?_eq_some_iff.1 hx).1; omega) hx hy]
 ·repeat' first | refine TW.seq ?_ | refine TW.block ?_ | refine TW.skip ?_ | (refine TW.regG hP (by simp <;> rfl) ?_; dsimp only [goK]) | simp only [thenQ] | (refine TW.cond hP rfl (fun hc => ?_) (fun hc => ?_) <;> simp at hc) | (refine TW.ret ⟨.inr rfl, _, _, rfl, rfl, ?_⟩; dsimp only [tupOf])
  ·exact ⟨by rw [sameB_len hl], .refl _⟩
  ·exfalso; omega
theorem Equal_pure (hP : POk Tryz.prog F gl K) (hX : ∀ f a, K.ext f a = none) (a b : Sl Int) (hlen : a.list.length < 1000000) : PureC Tryz.prog F N_slices_Equal_int_int [a.av cI, b.av cI] (.bool (sameL a.list b.list)) := by
 refine CallsT.pure (O := fun u _ => u = .bool (sameL a.list b.list)) (k := 1) (by simp) ?_ (fun u g e => by subst e; rfl)
 refine CallsT.body hP nix_sound E_slices_Equal_int_int rfl rfl ?_
 by_cases hl : a.list.length = b.list.length
 ·repeat' first | refine TW.seq ?_ | refine TW.block ?_ | refine TW.skip ?_ | refine TW.condF hP rfl ?_ | (refine TW.regG hP (by simp [hl] <;> rfl) ?_; dsimp only [goK])
  refine TW.loopL (fun i : Nat => [(0, a.av cI), (1, b.av cI), (4, .bool false), (12, .int .i64 a.list.length), (13, .int .i64 i)]) (fun i _ => i ≤ a.list.length ∧ a.list.take i = b.list.take i) (fun i => a.list.length - i) (0) ?_ ?_ ?_
  focus (repeat' first | exact less_nil | refine less_cons (by simp [hl]) ?_)
  ·simp
  rintro i g ⟨hi, hall⟩
  repeat' first | refine TW.seq ?_ | (refine TW.regG hP (by simp <;> rfl) ?_; dsimp only [goK])
  refine TW.cond hP rfl (fun hc => TW.skip ?_) (fun hc => TW.exit ?_)
  ·simp at hc
   obtain ⟨x, hx⟩ := get_of_lt hc
   obtain ⟨y, hy⟩ := get_of_lt (show i < b.list.length by omega)
   have hav := av_pos (e := cI) (show 0 < a.list.length by omega)
   have hbv := av_pos (e := cI) (show 0 < b.list.length by omega)
   dsimp only [thenQ]
   repeat' first | refine TW.seq ?_ | refine TW.block ?_ | (refine TW.regG hP (by simp <;> rfl) ?_; dsimp only [goK])
   try refine TW.seq ?_
   refine TW.drawG hP [] (fun e he => by cases he) (by kernel_rfl) (by simp [hx, hy, hav, hbv] <;> rfl) ?_
   repeat' (refine okQ_guard (fun hb => ?_) (fun hb => ?_) <;> (try simp only [Bool.not_eq_eq_eq_not, Bool.not_true, Bool.not_false] at hb) <;> refine okQ_eq (by simp [hb, hX, hx, hy, hav, hbv] <;> rfl) ?_)
   all_goals dsimp only [okQ, thenQ]
   repeat' first | refine TW.seq ?_ | refine TW.skip ?_ | (refine TW.regG hP (by simp <;> rfl) ?_; dsimp only [goK]) | simp only [thenQ, roundL] | (refine TW.cond hP rfl (fun hc => ?_) (fun hc => ?_) <;> simp at hc) | (refine TW.ret ⟨.inr rfl, _, _, rfl, rfl, ?_⟩; dsimp only [tupOf])
   ·simp [sameL]
    intro e
    rw [e, hy] at hx
    exact hc (Option.some.inj hx).symm
   ·refine ⟨i + 1, by omega, trivial, ?_, by omega, take_succ_eq hx hy hall hc⟩
    repeat' first | exact less_nil | refine less_cons (by simp [hav, hbv, w64s (show i < 9000000000000000000 by omega)]) ?_
  ·simp at hc
   dsimp only [thenQ]
   repeat' first | refine TW.seq ?_ | (refine TW.regG hP (by simp <;> rfl) ?_; dsimp only [goK]) | simp only [thenQ] | (refine TW.ret ⟨.inr rfl, _, _, rfl, rfl, ?_⟩; dsimp only [tupOf])
   rw [List.take_of_length_le hc, List.take_of_length_le (by omega)] at hall
   simp [sameL, hall]
 ·repeat' first | refine TW.seq ?_ | refine TW.block ?_ | refine TW.skip ?_ | (refine TW.regG hP (by simp <;> rfl) ?_; dsimp only [goK]) | simp only [thenQ] | (refine TW.cond hP rfl (fun hc => ?_) (fun hc => ?_) <;> simp at hc) | (refine TW.ret ⟨.inr rfl, _, _, rfl, rfl, ?_⟩; dsimp only [tupOf])
  ·simp [sameL]; intro e; exact hl (by rw [e])
  ·exfalso; omega
theorem same1_pure (hP : POk Tryz.prog F gl K) (hX : ∀ f a, K.ext f a = none) (x y : LIns) (h1 : x.args.list.length < 1000000) (h2 : x.frm.list.length < 1000000) : PureC Tryz.prog F N_shape_Same_1 [.agg x.cells, .agg y.cells] (.bool (sameIn x y)) := by
 refine CallsT.pure (O := fun u _ => u = .bool (sameIn x y)) (k := 1) (by simp) ?_ (fun u g e => by subst e; rfl)
 refine CallsT.body hP nix_sound E_shape_Same_1 rfl rfl ?_
 have e1 := Equal_pure hP hX x.args y.args h1
 have e2 := Equal_pure hP hX x.frm y.frm h2
 refine TW.seq (TW.regG hP (by simp <;> rfl) ?_)
 dsimp only [goK, thenQ, blockQ, roundL]
 repeat' first | refine TW.seq ?_ | (refine TW.regG hP (by simp <;> rfl) ?_; dsimp only [goK]) | (refine goK_guard (fun hb => ?_) (fun hb => ?_) <;> (try simp only [Bool.not_eq_eq_eq_not, Bool.not_true, Bool.not_false] at hb) <;> (refine goK_eq (by simp [hb] <;> rfl) ?_; dsimp only [goK])) | (refine TO.scall hP I_slices_Equal_int_int (e1) ?_ rfl rfl rfl rfl ?_; (focus (simp; done)); refine TO.runsG hP (by simp <;> rfl) ?_; dsimp only [goK]) | (refine TO.scall hP I_slices_Equal_int_int (e2) ?_ rfl rfl rfl rfl ?_; (focus (simp; done)); refine TO.runsG hP (by simp <;> rfl) ?_; dsimp only [goK]) | simp only [thenQ] | (refine TW.ret ⟨.inr rfl, _, _, rfl, rfl, ?_⟩; dsimp only [tupOf])
 all_goals simp_all [sameIn]
theorem tsame1_pure (hP : POk Tryz.prog F gl K) (hX : ∀ f a, K.ext f a = none) (x y : LType) (h1 : x.parts.list.length < 1000000) : PureC Tryz.prog F N_types_Same_1 [.agg x.cells, .agg y.cells] (.bool (sameType x y)) := by
 refine CallsT.pure (O := fun u _ => u = .bool (sameType x y)) (k := 1) (by simp) ?_ (fun u g e => by subst e; rfl)
 refine CallsT.body hP nix_sound E_types_Same_1 rfl rfl ?_
 have e1 := Equal_pure hP hX x.parts y.parts h1
 refine TW.seq (TW.regG hP (by simp <;> rfl) ?_)
 dsimp only [goK, thenQ, blockQ, roundL]
 repeat' first | refine TW.seq ?_ | (refine TW.regG hP (by simp <;> rfl) ?_; dsimp only [goK]) | (refine goK_guard (fun hb => ?_) (fun hb => ?_) <;> (try simp only [Bool.not_eq_eq_eq_not, Bool.not_true, Bool.not_false] at hb) <;> (refine goK_eq (by simp [hb] <;> rfl) ?_; dsimp only [goK])) | (refine TO.scall hP I_slices_Equal_int_int (e1) ?_ rfl rfl rfl rfl ?_; (focus (simp; done)); refine TO.runsG hP (by simp <;> rfl) ?_; dsimp only [goK]) | simp only [thenQ] | (refine TW.ret ⟨.inr rfl, _, _, rfl, rfl, ?_⟩; dsimp only [tupOf])
 all_goals simp_all [sameType]
theorem tsame_pure (hP : POk Tryz.prog F gl K) (hX : ∀ f a, K.ext f a = none) (a b : Sl LType) (hlen : a.list.length < 1000000) (ha : ∀ x ∈ a.list, x.parts.list.length < 1000000) : PureC Tryz.prog F N_types_Same [a.av LType.cells, b.av LType.cells] (.bool (sameB sameType a.list b.list)) := by
 refine CallsT.pure (O := fun u _ => u = .bool (sameB sameType a.list b.list)) (k := 1) (by simp) ?_ (fun u g e => by subst e; rfl)
 refine CallsT.body hP nix_sound E_types_Same rfl rfl ?_
 have e1 := fun h => EqualFunc_Type hP a b N_types_Same_1 [] sameType I_types_Same_1 h hlen fun x hx y h' _ => Qt.of_pure (tsame1_pure hP hX x y (ha x hx))
 refine TW.seq (TW.regG hP (by simp <;> rfl) ?_)
 dsimp only [goK, thenQ, blockQ, roundL]
 repeat' first | refine TW.seq ?_ | (refine TW.regG hP (by simp <;> rfl) ?_; dsimp only [goK])
 refine TO.qcall hP I_slices_EqualFunc_api_Type_api_Type_api_Type_api_Type (e1 _) (by simp) rfl rfl rfl rfl fun k hk => ?_
 refine TO.runsG hP (by simp <;> rfl) ?_
 try dsimp only [goK]
 repeat' first | simp only [thenQ]
 exact TW.ret ⟨.inr rfl, _, _, rfl, rfl, rfl⟩
theorem eql_end (hE : K.eqT T_end = true) (x y : LEnd) : binOpA (Ctx.of Tryz.prog gl K) .eql T_end (.agg x.cells) (.agg y.cells) = some (.bool (sameEnd x y)) := by
 have h1 : (Ctx.of Tryz.prog gl K).eqT T_end = true := hE
 show (bif guardA (Ctx.of Tryz.prog gl K) T_end (.agg x.cells) (.agg y.cells) then (match eqA (Ctx.of Tryz.prog gl K) 100 T_end (.agg x.cells) (.agg y.cells) with | some b => some (AV.bool b) | none => none) else none) = _
 have h2 : guardA (Ctx.of Tryz.prog gl K) T_end (.agg x.cells) (.agg y.cells) = true := h1
 have h3 : eqA (Ctx.of Tryz.prog gl K) 100 T_end (.agg x.cells) (.agg y.cells) = some (sameEnd x y) := by
  dsimp only [T_end] at h1 ⊢
  by_cases e1 : x.kind = y.kind <;> by_cases e2 : x.a = y.a <;> by_cases e3 : x.to = y.to <;> by_cases e4 : x.els = y.els <;>
   simp [eqA, eqStep, eqFields, h1, sameEnd, e1, e2, e3, e4, kindEq, eqI_eq, LEnd.cells]
 rw [h2, h3]; rfl
def SmI (x : LIns) : Prop := x.args.list.length < 1000000 ∧ x.frm.list.length < 1000000
def SmB (b : LBlock) : Prop := b.ins.list.length < 1000000 ∧ ∀ x ∈ b.ins.list, SmI x
theorem same2_qt (hP : POk Tryz.prog F gl K) (hX : ∀ f a, K.ext f a = none) (hE : K.eqT T_end = true) (x y : LBlock) (h : Hp) (q : Nat) (e : TypeId) (hq : h.get q = some (.cells e [.fn (.func N_shape_Same_1) [] []])) (hqn : q < h.nx) (hb : SmB x) :
    Qt Tryz.prog F h (.bool (sameBlock x y)) N_shape_Same_2 [.agg x.cells, .agg y.cells, .ptr q 0] := by
  refine CallsT.body hP nix_sound E_shape_Same_2 rfl rfl ?_
  have e1 := fun k => EqualFunc_Ins hP x.ins y.ins N_shape_Same_1 [] sameIn I_shape_Same_1 k hb.1 fun z hz w h' _ => Qt.of_pure (same1_pure hP hX z w (hb.2 z hz).1 (hb.2 z hz).2)
  have hq2 := eql_end (gl := gl) hE x.ed y.ed
  dsimp only [T_end, LEnd.cells] at hq2
  refine TW.seq (TW.regG hP (by simp <;> rfl) ?_)
  dsimp only [goK, thenQ, blockQ, roundL]
  refine TW.gen (fun g => g.get h.nx = some (.cells T_block x.cells) ∧ g.get (h.nx + 1) = some (.cells T_block y.cells) ∧ g.get q = some (.cells e [.fn (.func N_shape_Same_1) [] []]) ∧ Wid h g) ⟨by simp [get_new], by simp [get_new], by simp [get_new]; rw [if_neg (by omega), if_neg (by omega)]; exact hq, by exact ((Wid.refl h).new _).new _⟩ fun g hg => ?_
  obtain ⟨g1, g2, g3, hw⟩ := hg
  dsimp only [T_block, LBlock.cells, LEnd.cells] at g1 g2
  cases hs : sameEnd x.ed y.ed with
  | false =>
    rw [hs] at hq2
    repeat' first | refine TW.seq ?_ | (refine TW.regG hP (by simp [g1, g2, hq2] <;> rfl) ?_; dsimp only [goK]) | simp only [thenQ]
    refine TW.ret ⟨.inr rfl, g, _, rfl, rfl, ?_, hw⟩
    simp [tupOf, sameBlock, hs]
  | true =>
    rw [hs] at hq2
    repeat' first | refine TW.seq ?_ | (refine TW.regG hP (by simp [g1, g2, g3, hq2] <;> rfl) ?_; dsimp only [goK])
    refine TO.qcall hP I_slices_EqualFunc_api_Ins_api_Ins_api_Ins_api_Ins (e1 _) (by simp) rfl rfl rfl rfl fun k hk => ?_
    refine TO.runsG hP (by simp <;> rfl) ?_
    try dsimp only [goK]
    repeat' first | simp only [thenQ]
    refine TW.ret ⟨.inr rfl, k, _, rfl, rfl, ?_, hw.trans hk⟩
    simp [tupOf, sameBlock, hs]
def SmF (f : LFunc) : Prop := f.blocks.list.length < 1000000 ∧ ∀ x ∈ f.blocks.list, SmB x
theorem same3_qt (hP : POk Tryz.prog F gl K) (hX : ∀ f a, K.ext f a = none) (hE : K.eqT T_end = true) (x y : LFunc) (h : Hp) (q r : Nat) (e d : TypeId) (hq : h.get q = some (.cells e [.fn (.func N_shape_Same_1) [] []])) (hqn : q < h.nx) (hr : h.get r = some (.cells d [.fn (.func N_shape_Same_2) [] [.ptr q 0]])) (hrn : r < h.nx) (hb : SmF x) :
  Qt Tryz.prog F h (.bool (sameFn x y)) N_shape_Same_3 [.agg x.cells, .agg y.cells, .ptr r 0] := by
 refine CallsT.body hP nix_sound E_shape_Same_3 rfl rfl ?_
 have e1 := fun (g : Hp) (hg : g.get q = some (.cells e [.fn (.func N_shape_Same_1) [] []])) (hn : q < g.nx) => EqualFunc_Block hP x.blocks y.blocks N_shape_Same_2 [.ptr q 0] sameBlock I_shape_Same_2 g hb.1 fun z hz w h' hw => same2_qt hP hX hE z w h' q e (hw.at hg hn) (by have := hw.nx; omega) (hb.2 z hz)
 refine TW.seq (TW.regG hP (by simp <;> rfl) ?_)
 dsimp only [goK, thenQ, blockQ, roundL]
 refine TW.gen (fun g => g.get h.nx = some (.cells T_func x.cells) ∧ g.get (h.nx + 1) = some (.cells T_func y.cells) ∧ g.get q = some (.cells e [.fn (.func N_shape_Same_1) [] []]) ∧ g.get r = some (.cells d [.fn (.func N_shape_Same_2) [] [.ptr q 0]]) ∧ Wid h g ∧ h.nx ≤ g.nx) ⟨by simp [get_new], by simp [get_new], by simp [get_new]; rw [if_neg (by omega), if_neg (by omega)]; exact hq, by simp [get_new]; rw [if_neg (by omega), if_neg (by omega)]; exact hr, ((Wid.refl h).new _).new _, by simp; omega⟩ fun g hg => ?_
 obtain ⟨g1, g2, g3, g4, hw, hn⟩ := hg
 dsimp only [T_func, LFunc.cells] at g1 g2
 by_cases hs : x.sig = y.sig
 ·repeat' first | refine TW.seq ?_ | (refine TW.regG hP (by simp [g1, g2, g4, hs] <;> rfl) ?_; dsimp only [goK])
  refine TO.qcall hP I_slices_EqualFunc_api_Block_api_Block_api_Block_api_Block (e1 g g3 (by omega)) (by simp) rfl rfl rfl rfl fun k hk => ?_
  refine TO.runsG hP (by simp <;> rfl) ?_
  try dsimp only [goK]
  repeat' first | simp only [thenQ]
  refine TW.ret ⟨.inr rfl, k, _, rfl, rfl, ?_, hw.trans hk⟩
  simp [tupOf, sameFn, hs]
 ·repeat' first | refine TW.seq ?_ | (refine TW.regG hP (by simp [g1, g2, hs] <;> rfl) ?_; dsimp only [goK]) | simp only [thenQ]
  refine TW.ret ⟨.inr rfl, g, _, rfl, rfl, ?_, hw⟩
  simp [tupOf, sameFn, hs]
theorem SmallF.sm {f : LFunc} (h : SmallF f) : SmF f := by
 obtain ⟨h1, h2⟩ := h.blk
 exact ⟨h1, fun b hb => ⟨(h2 b hb).1, fun x hx => (h2 b hb).2 x hx⟩⟩
theorem shape_Same_pure (hP : POk Tryz.prog F gl K) (hX : ∀ f a, K.ext f a = none) (hE : K.eqT T_end = true) (p q : LProg) (hs : SmallP p) : PureC Tryz.prog F N_shape_Same [.agg p.cells, .agg q.cells] (.bool (sameP p q)) := by
  refine CallsT.pure (O := fun u _ => u = .bool (sameP p q)) (k := 1) (by simp) ?_ (fun u g e => by subst e; rfl)
  refine CallsT.body hP nix_sound E_shape_Same rfl rfl ?_
  have e1 := tsame_pure hP hX p.types q.types (by have := hs.nt; omega) fun x hx => by have := hs.parts x hx; omega
  refine TW.seq (TW.regG hP (by simp <;> rfl) ?_)
  dsimp only [goK, thenQ, blockQ, roundL]
  refine TW.seq (TW.regG hP (by simp <;> rfl) ?_)
  dsimp only [goK, thenQ, blockQ, roundL]
  refine TW.seq (TW.regG hP (by simp <;> rfl) ?_)
  dsimp only [goK, thenQ, blockQ, roundL]
  refine TW.seq (TW.regG hP (by simp <;> rfl) ?_)
  dsimp only [goK, thenQ, blockQ, roundL]
  refine TW.gen (fun g => g.get 0 = some (.cells T_prog p.cells) ∧ g.get 1 = some (.cells T_prog q.cells) ∧ (∃ e, g.get 2 = some (.cells e [.fn (.func N_shape_Same_1) [] []])) ∧ (∃ d, g.get 3 = some (.cells d [.fn (.func N_shape_Same_2) [] [.ptr 2 0]])) ∧ 4 ≤ g.nx) ⟨by simp, by simp, ⟨_, by simp <;> rfl⟩, ⟨_, by simp <;> rfl⟩, by simp⟩ fun g hg => ?_
  obtain ⟨g1, g2, ⟨e, g3⟩, ⟨d, g4⟩, hn⟩ := hg
  dsimp only [T_prog, LProg.cells] at g1 g2
  have e2 := EqualFunc_Func hP p.funcs q.funcs N_shape_Same_3 [.ptr 3 0] sameFn I_shape_Same_3 g (by have := hs.nf; omega) fun z hz w h' hw => same3_qt hP hX hE z w h' 2 3 e d (hw.at g3 (by omega)) (by have := hw.nx; omega) (hw.at g4 (by omega)) (by have := hw.nx; omega) (hs.funcs z hz).sm
  cases ht : sameB sameType p.types.list q.types.list with
  | false =>
    rw [ht] at e1
    repeat' first | refine TW.seq ?_ | (refine TW.regG hP (by simp [g1, g2] <;> rfl) ?_; dsimp only [goK]) | (refine TO.scall hP I_types_Same (e1) ?_ rfl rfl rfl rfl ?_; (focus (simp; done)); refine TO.runsG hP (by simp <;> rfl) ?_; dsimp only [goK]) | simp only [thenQ]
    refine TW.ret ⟨.inr rfl, g, _, rfl, rfl, ?_⟩
    simp [tupOf, sameP, ht]
  | true =>
    rw [ht] at e1
    repeat' first | refine TW.seq ?_ | (refine TW.regG hP (by simp [g1, g2] <;> rfl) ?_; dsimp only [goK]) | (refine TO.scall hP I_types_Same (e1) ?_ rfl rfl rfl rfl ?_; (focus (simp; done)); refine TO.runsG hP (by simp [g1, g2] <;> rfl) ?_; dsimp only [goK])
    refine TO.qcall hP I_slices_EqualFunc_api_Func_api_Func_api_Func_api_Func (e2) (by simp) rfl rfl rfl rfl fun k hk => ?_
    refine TO.runsG hP (by simp <;> rfl) ?_
    try dsimp only [goK]
    repeat' first | simp only [thenQ]
    refine TW.ret ⟨.inr rfl, k, _, rfl, rfl, ?_⟩
    simp [tupOf, sameP, ht]
end Go.Ax
set_option maxRecDepth 20000
noncomputable section
namespace Go.Ax
open Go.Proofs
variable {X Y : Type}
theorem sl_mk {l : List X} : (Sl.mk l).list = l := rfl
theorem uses6_turn (T : Int → Int) (y : LIns) : uses6 (turnX T y) = (uses6 y).map T := by
 unfold uses6 turnX
 dsimp only
 cases hA : hasA6 y.op <;> cases h2 : two6 y.op <;> cases hg : hasArgs6 y.op <;> simp [Sl.list]
theorem lower3_map {T : Int → Int} {k : Int} {l : List Int} (hT : ∀ r, 0 ≤ r → r < k → 0 ≤ T r ∧ T r < k) (h : lower3 l k = true) : lower3 (l.map T) k = true := by
 unfold lower3 at h ⊢
 rw [List.all_eq_true] at h ⊢
 intro r hr
 obtain ⟨s, hs, rfl⟩ := List.mem_map.1 hr
 have h1 := h s hs
 simp only [Bool.and_eq_true, decide_eq_true_eq] at h1 ⊢
 exact hT s h1.1 h1.2
theorem mayIns6_turn {T : Int → Int} {nt nf regs many : Int} {y : LIns} (hT : ∀ r, 0 ≤ r → r < regs → 0 ≤ T r ∧ T r < regs) (h : mayIns6 nt nf y regs many = true) : mayIns6 nt nf (turnX T y) regs many = true := by
 simp only [mayIns6, Bool.and_eq_true, Bool.not_eq_true'] at h ⊢
 obtain ⟨hA, hB, hC, hD⟩ := h
 refine ⟨?_, ?_, hC, ?_⟩
 ·simp only [mayInsA, Bool.or_eq_false_iff, Bool.not_eq_false'] at hA ⊢
  exact ⟨hA.1, by rw [uses6_turn]; exact lower3_map hT hA.2.1, hA.2.2⟩
 ·simp only [mayInsB, Bool.or_eq_false_iff] at hB ⊢
  obtain ⟨b1, b2, b3⟩ := hB
  refine ⟨?_, ?_, ?_⟩
  ·cases h1 : hasA6 y.op with
   | true => simp [turnX, h1]
   | false => rw [h1] at b1; simpa [turnX, h1] using b1
  ·cases h1 : two6 y.op with
   | true => simp [turnX, h1]
   | false => rw [h1] at b2; simpa [turnX, h1] using b2
  ·have : (turnX T y).args.list.length = y.args.list.length := List.length_map ..
   rw [this]; exact b3
 ·have : (turnX T y).args.list.length = y.args.list.length := List.length_map ..
  unfold mayInsD at hD ⊢
  rw [this]; exact hD
theorem mayEnd6_turn {T : Int → Int} {regs many : Int} {e : LEnd} (hT : ∀ r, 0 ≤ r → r < regs → 0 ≤ T r ∧ T r < regs) (h : mayEnd6 e regs many = true) : mayEnd6 (turnN T e) regs many = true := by
 have one : ∀ {a : Int}, lower3 [a] regs = true → lower3 [T a] regs = true := fun {a} h => lower3_map (l := [a]) hT h
 unfold mayEnd6 turnN at *
 dsimp only
 by_cases h1 : e.kind = 1
 ·simp only [h1] at h ⊢
  simpa using h
 ·rw [if_neg h1] at h ⊢
  by_cases h2 : e.kind = 2
  ·rw [if_pos h2] at h ⊢
   rw [if_pos (.inl h2)]
   simp only [Bool.and_eq_true] at h ⊢
   exact ⟨one h.1, h.2⟩
  ·rw [if_neg h2] at h ⊢
   by_cases h3 : e.kind = 3
   ·rw [if_pos h3] at h ⊢
    rw [if_pos (.inr h3)]
    simp only [Bool.and_eq_true] at h ⊢
    exact ⟨h.1, h.2.1, one h.2.2⟩
   ·rw [if_neg h3] at h; cases h
theorem turnK_many (T : Int → Int) (l : List LBlock) : many6 (l.map (turnK T)) = many6 l := many6_map (turnK_len T) l
def turnedF (T : Int → Int) (x : LFunc) : LFunc := { x with blocks := .mk (x.blocks.list.map (turnK T)) }
theorem mayFunc6_turn {p p' : LProg} {x : LFunc} {T : Int → Int} (ht : p'.types = p.types) (hn : p'.funcs.list.length = p.funcs.list.length) (hT : ∀ r, 0 ≤ r → r < regs6 p x → 0 ≤ T r ∧ T r < regs6 p x) (h : mayFunc6 p x = true) : mayFunc6 p' (turnedF T x) = true := by
 have hr : regs6 p' (turnedF T x) = regs6 p x := by
  unfold regs6 sigParts turnedF
  dsimp only [sl_mk]
  rw [turnK_many, ht]
 have hl : (turnedF T x).blocks.list.length = x.blocks.list.length := List.length_map ..
 have hm : many6 (turnedF T x).blocks.list = many6 x.blocks.list := turnK_many T _
 have hk : sigKind p' (turnedF T x) = sigKind p x := by unfold sigKind; rw [ht]; rfl
 simp only [mayFunc6, Bool.and_eq_true, Bool.not_eq_true'] at h ⊢
 refine ⟨?_, List.all_eq_true.2 fun b hb => ?_⟩
 ·have := h.1
  unfold mayFuncA at this ⊢
  rw [hk, hl, hm, ht]
  exact this
 ·obtain ⟨c, hc, rfl⟩ := List.mem_map.1 (show b ∈ x.blocks.list.map (turnK T) from hb)
  have h2 := List.all_eq_true.1 h.2 c hc
  simp only [mayBlock6, Bool.and_eq_true] at h2 ⊢
  rw [hr, hl, ht, hn]
  refine ⟨List.all_eq_true.2 fun y hy => ?_, mayEnd6_turn hT h2.2⟩
  obtain ⟨z, hz, rfl⟩ := List.mem_map.1 (show y ∈ c.ins.list.map (turnX T) from hy)
  exact mayIns6_turn hT (List.all_eq_true.1 h2.1 z hz)
theorem mayFunc6_same {p p' : LProg} {x : LFunc} (ht : p'.types = p.types) (hn : p'.funcs.list.length = p.funcs.list.length) : mayFunc6 p' x = mayFunc6 p x := by
 have hb : ∀ b, mayBlock6 p' x b = mayBlock6 p x b := fun b => by
  unfold mayBlock6 regs6 sigParts
  rw [ht, hn]
 have e : mayBlock6 p' x = mayBlock6 p x := funext hb
 unfold mayFunc6 mayFuncA sigKind
 rw [e, ht]
theorem swapT_in {a b k : Int} (hb : 0 ≤ b ∧ b < k) (r : Int) (h0 : 0 ≤ r) (h1 : r < k) : 0 ≤ swapT a b r ∧ swapT a b r < k := by
 unfold swapT
 split
 ·exact hb
 ·exact ⟨h0, h1⟩
theorem swapT_twice (a b r : Int) : swapT a b (swapT a b r) = swapT a b r := by
 unfold swapT
 by_cases h : r = a
 ·rw [if_pos h]; split <;> rfl
 ·rw [if_neg h, if_neg h]
theorem swapT_ne {a b : Int} (h : a ≠ b) (r : Int) : swapT a b r ≠ a := by
 unfold swapT
 split
 ·exact fun e => h e.symm
 ·assumption
theorem swapT_id (a r : Int) : swapT a a r = r := by
 unfold swapT
 split
 ·rename_i h; exact h.symm
 ·rfl
theorem swapE_ok {p : LProg} {f a b : Int} (h : swapE p f a b = 0) : ∃ x, asked6 p f = 0 ∧ p.funcs.list[f.toNat]? = some x ∧ (0 ≤ a ∧ a < regs6 p x) ∧ (0 ≤ b ∧ b < regs6 p x) ∧ swapF p f a b = p.funcs.list.set f.toNat (turnedF (swapT a b) x) := by
 unfold swapE at h
 split at h
 ·rename_i ha
  obtain ⟨c1, c2, c3⟩ := asked6_ok ha
  obtain ⟨x, hx⟩ := get_of_lt (l := p.funcs.list) (i := f.toNat) (by omega)
  rw [hx] at h
  dsimp only at h
  split at h
  ·cases h
  ·refine ⟨x, ha, hx, by omega, by omega, ?_⟩
   unfold swapF
   rw [hx]; rfl
 ·rename_i ha; exact absurd h ha
def swapQ (p : LProg) (f a b : Int) : LProg := { types := p.types, funcs := .mk (swapF p f a b) }
theorem swapQ_may {p : LProg} {f a b : Int} (h : swapE p f a b = 0) : check6 (normP (swapQ p f a b)) = 0 := by
 obtain ⟨x, ha, hx, ra, rb, hF⟩ := swapE_ok h
 obtain ⟨c1, c2, c3⟩ := asked6_ok ha
 obtain ⟨k1, k2, k3, k4⟩ := check6_funcs c1
 rw [check6_norm]
 have hl : (swapQ p f a b).funcs.list.length = p.funcs.list.length := by
  show (swapF p f a b).length = _
  rw [hF, List.length_set]
 have hall : (swapQ p f a b).funcs.list.all (mayFunc6 (swapQ p f a b)) = true := List.all_eq_true.2 fun y hy => by
  have hy : y ∈ p.funcs.list.set f.toNat (turnedF (swapT a b) x) := by rw [← hF]; exact hy
  rcases List.mem_or_eq_of_mem_set hy with h1 | rfl
  ·rw [mayFunc6_same (p := p) (p' := swapQ p f a b) rfl hl]; exact k2 y h1
  ·exact mayFunc6_turn (p := p) (p' := swapQ p f a b) rfl hl (swapT_in rb) (k2 x (List.mem_of_getElem? hx))
 unfold check6
 rw [if_pos (show check3 (swapQ p f a b).types.list = 0 from k1), if_pos hall, hl, if_neg (by omega)]
theorem swapQ_asked {p : LProg} {f a b : Int} (h : swapE p f a b = 0) : asked6 (normP (swapQ p f a b)) f = 0 := by
 obtain ⟨x, ha, hx, ra, rb, hF⟩ := swapE_ok h
 obtain ⟨c1, c2, c3⟩ := asked6_ok ha
 have hl : (normP (swapQ p f a b)).funcs.list.length = p.funcs.list.length := by
  show ((swapF p f a b).map asReadF).length = _
  rw [hF, List.length_map, List.length_set]
 unfold asked6
 rw [swapQ_may h, hl, if_neg (by omega)]
theorem swapQ_at {p : LProg} {f a b : Int} (h : swapE p f a b = 0) {x : LFunc} (hx : p.funcs.list[f.toNat]? = some x) : (normP (swapQ p f a b)).funcs.list[f.toNat]? = some (asReadF (turnedF (swapT a b) x)) := by
 obtain ⟨y, ha, hy, ra, rb, hF⟩ := swapE_ok h
 rw [hx] at hy
 cases hy
 have hlt := (List.getElem?_eq_some_iff.1 hx).1
 show ((swapF p f a b).map asReadF)[f.toNat]? = _
 rw [hF, List.getElem?_map, List.getElem?_set, if_pos rfl, if_pos hlt]; rfl
theorem turnX_read (T : Int → Int) (hT : ∀ r, T (T r) = T r) (y : LIns) : turnX T (asRead (turnX T y)) = asRead (turnX T y) := by
 have ha : (if hasA6 y.op = true then T (if hasA6 y.op = true then T y.a else y.a) else if hasA6 y.op = true then T y.a else y.a) = if hasA6 y.op = true then T y.a else y.a := by
  split
  ·rw [hT]
  ·rfl
 have hb : (if two6 y.op = true then T (if two6 y.op = true then T y.b else y.b) else if two6 y.op = true then T y.b else y.b) = if two6 y.op = true then T y.b else y.b := by
  split
  ·rw [hT]
  ·rfl
 unfold turnX asRead
 dsimp only [sl_mk]
 rw [ha, hb, List.map_map]
 have : (y.args.list.map (T ∘ T)) = y.args.list.map T := List.map_congr_left fun r _ => hT r
 rw [this]
theorem turnN_read (T : Int → Int) (hT : ∀ r, T (T r) = T r) (e : LEnd) : turnN T (turnN T e) = turnN T e := by
 unfold turnN
 dsimp only
 by_cases h : e.kind = 2 ∨ e.kind = 3
 ·simp only [if_pos h, hT]
 ·simp only [if_neg h]
theorem turnK_read (T : Int → Int) (hT : ∀ r, T (T r) = T r) (b : LBlock) : turnK T (asReadB (turnK T b)) = asReadB (turnK T b) := by
 unfold turnK asReadB
 dsimp only [sl_mk]
 rw [turnN_read T hT, List.map_map, List.map_map, List.map_map]
 congr 2
 exact List.map_congr_left fun y _ => by simp only [Function.comp_apply, turnX_read T hT]
theorem turnedF_read (T : Int → Int) (hT : ∀ r, T (T r) = T r) (x : LFunc) : turnedF T (asReadF (turnedF T x)) = asReadF (turnedF T x) := by
 unfold turnedF asReadF
 dsimp only [sl_mk]
 rw [List.map_map, List.map_map, List.map_map]
 congr 2
 exact List.map_congr_left fun b _ => by simp only [Function.comp_apply, turnK_read T hT]
theorem swap_again {p : LProg} {f a b : Int} (h : swapE p f a b = 0) : swapE (normP (swapQ p f a b)) f a b = 0 ∧ swapF (normP (swapQ p f a b)) f a b = (normP (swapQ p f a b)).funcs.list := by
 obtain ⟨x, ha, hx, ra, rb, hF⟩ := swapE_ok h
 have hq := swapQ_at h hx
 have hr : regs6 (normP (swapQ p f a b)) (asReadF (turnedF (swapT a b) x)) = regs6 p x := by
  rw [regs6_norm]
  unfold regs6 sigParts turnedF
  dsimp only [sl_mk]
  rw [turnK_many]; rfl
 constructor
 ·unfold swapE
  rw [if_pos (swapQ_asked h), hq]
  dsimp only
  rw [hr, if_neg (by omega)]
 ·unfold swapF
  rw [hq]
  dsimp only
  unfold setF
  show (normP (swapQ p f a b)).funcs.list.set f.toNat (turnedF (swapT a b) (asReadF (turnedF (swapT a b) x))) = _
  rw [turnedF_read _ (swapT_twice a b)]
  refine List.ext_getElem? fun i => ?_
  rw [List.getElem?_set]
  split
  ·rename_i e; subst e
   have hlt := (List.getElem?_eq_some_iff.1 hq).1
   rw [if_pos hlt, hq]
  ·rfl
theorem swap_again_same {p : LProg} {f a b : Int} (h : swapE p f a b = 0) : sameP (outP 0 (normP (swapQ p f a b)).types.list (swapF (normP (swapQ p f a b)) f a b)) (normP (swapQ p f a b)) = true := by
 rw [(swap_again h).2]
 exact same_read rfl rfl
theorem swap_free {p : LProg} {f a b : Int} (h : swapE p f a b = 0) (hab : a ≠ b) {y : LFunc} (hy : (normP (swapQ p f a b)).funcs.list[f.toNat]? = some y) : ∀ c ∈ y.blocks.list, (∀ r ∈ endsS c.ed, r ≠ a) ∧ ∀ z ∈ c.ins.list, ∀ r ∈ uses6 z, r ≠ a := by
 obtain ⟨x, ha, hx, ra, rb, hF⟩ := swapE_ok h
 rw [swapQ_at h hx] at hy
 cases hy
 intro c hc
 obtain ⟨d, hd, rfl⟩ := List.mem_map.1 (show c ∈ (turnedF (swapT a b) x).blocks.list.map asReadB from hc)
 obtain ⟨u, hu, rfl⟩ := List.mem_map.1 (show d ∈ x.blocks.list.map (turnK (swapT a b)) from hd)
 refine ⟨fun r hr => ?_, fun z hz r hr => ?_⟩
 ·have hr : r ∈ endsS (turnN (swapT a b) u.ed) := hr
  unfold endsS turnN at hr
  dsimp only at hr
  split at hr
  ·rename_i hk
   rw [List.mem_singleton.1 hr]
   exact swapT_ne hab _
  ·cases hr
 ·obtain ⟨v, hv, rfl⟩ := List.mem_map.1 (show z ∈ (turnK (swapT a b) u).ins.list.map asRead from hz)
  obtain ⟨w, hw, rfl⟩ := List.mem_map.1 (show v ∈ u.ins.list.map (turnX (swapT a b)) from hv)
  have hr : r ∈ uses6 (turnX (swapT a b) w) := hr
  rw [uses6_turn] at hr
  obtain ⟨s, _, rfl⟩ := List.mem_map.1 hr
  exact swapT_ne hab _
theorem swap_self {p : LProg} {f a : Int} (h : swapE p f a a = 0) : sameP p (normP (swapQ p f a a)) = true := by
 obtain ⟨x, ha, hx, ra, rb, hF⟩ := swapE_ok h
 have hid : swapT a a = id := funext (swapT_id a)
 have hX : ∀ y : LIns, asRead (turnX id y) = asRead y := fun y => by
  unfold turnX asRead
  dsimp only [sl_mk, id]
  simp
 have hK : ∀ c : LBlock, asReadB (turnK id c) = asReadB c := fun c => by
  unfold turnK asReadB turnN
  dsimp only [sl_mk, id]
  rw [List.map_map]
  congr 1
  ·congr 1
   exact List.map_congr_left fun y _ => hX y
  ·simp
 have hFn : asReadF (turnedF id x) = asReadF x := by
  unfold turnedF asReadF
  dsimp only [sl_mk]
  rw [List.map_map]
  congr 2
  exact List.map_congr_left fun c _ => hK c
 refine sameP_of ?_ ?_
 ·show p.types.list.map asReadT = (p.types.list.map asReadT).map asReadT
  rw [map_idem asReadT_idem]
 ·show p.funcs.list.map asReadF = ((swapF p f a a).map asReadF).map asReadF
  rw [map_idem asReadF_idem, hF, hid]
  refine List.ext_getElem? fun i => ?_
  rw [List.getElem?_map, List.getElem?_map, List.getElem?_set]
  split
  ·rename_i e; subst e
   have hlt := (List.getElem?_eq_some_iff.1 hx).1
   rw [if_pos hlt, hx]
   show some (asReadF x) = some (asReadF (turnedF id x))
   rw [hFn]
  ·rfl
end Go.Ax
set_option maxRecDepth 20000
noncomputable section
namespace Go.Ax
open Go.Proofs
attribute [local irreducible] TW TO CallsT PureC
variable {F : Nat → Option Obj} {gl : Nat → AV} {K : Knob} {S S' : Nat → Prop} {X : Type}
def Acc (b : Nat) (h : Hp) (v : AV) (l : List Int) : Prop :=
 Own 1 T_int b h v (l.map cI) ∨ ∃ q x, b ≤ q ∧ q < h.nx ∧ v = .sl q 0 1 1 1 true ∧ h.get q = some (.cells T_int [.int .i64 x]) ∧ l = [x]
theorem Acc.rd {b : Nat} {h : Hp} {v : AV} {l : List Int} (H : Acc b h v l) : RdI h v l := by
  rcases H with h1 | ⟨q, x, h1, h2, rfl, h4, rfl⟩
  · exact h1.rdI
  · exact .inr (.inr ⟨q, 0, 1, true, T_int, _, rfl, h2, h4, by simp, fun i hi => by
      have : i = 0 := by simpa using hi
      subst this; rfl⟩)
theorem Acc.mono {b c : Nat} {h : Hp} {v : AV} {l : List Int} (H : Acc b h v l) (hc : c ≤ b) : Acc c h v l := by
 rcases H with h1 | ⟨q, x, h1, h2, rfl, h4, rfl⟩
 ·exact .inl (h1.mono hc)
 ·exact .inr ⟨q, x, by omega, h2, rfl, h4, rfl⟩
theorem Acc.app {b : Nat} {h : Hp} {v : AV} {l : List Int} (H : Acc b h v l) (hb : b ≤ h.nx) (xs : List Int) (hlen : l.length + xs.length ≤ 1000000) :
    ∃ v' h', appendA (Ctx.of Tryz.prog gl K) T_ints T_ints v (slOf xs) h = some (v', h') ∧ Acc b h' v' (l ++ xs) ∧ WidB b h h' := by
  rcases H with h1 | ⟨q, x, h1, h2, rfl, h4, rfl⟩
  · obtain ⟨v', h', e1, e2, e3⟩ := Own.more (x := (slL xs).av cI) (rows' := xs.map cI) (slt_ints (gl := gl) (K := K)) isrc_ints h1 ints_len (by rw [lenA_ints, slL_list]) rfl (by have := src_ints (h := h) (slL xs); rw [slL_list] at this; rw [← this]) ints_len ints_cell (by simpa using hlen) hb
    rw [slOf_av]
    exact ⟨v', h', e1, .inl (by rw [List.map_append]; exact e2), e3⟩
  · cases xs with
    | nil =>
      refine ⟨.sl q 0 1 1 1 true, h.put q (.cells T_int [.int .i64 x]), ?_, .inr ⟨q, x, h1, h2, rfl, by rw [get_put, if_pos rfl], rfl⟩, (WidB.refl b h).put h1 _⟩
      unfold appendA
      simp only [T_ints, T_int, ti26, ti3, slOf, lenA, isSrc, srcCells]
      dsimp only [T_int] at h4
      rw [h4]
      rfl
    | cons y ys =>
      have hl : ys.length + 2 ≤ 1000000 := by simp at hlen; omega
      have h5 : srcCells h 1 ((y :: ys).map cI).length (slOf (y :: ys)) = some ((y :: ys).map cI).flatten := by
        rw [slOf_av]
        have := src_ints (h := h) (slL (y :: ys))
        rw [slL_list] at this
        exact this
      refine ⟨.sl h.nx 0 (1 + ((y :: ys).map cI).length) (1 + ((y :: ys).map cI).length) 1 false, h.new (.cells T_int ([.int .i64 x] ++ ((y :: ys).map cI).flatten)), ?_, .inl (.inr ⟨by simp, h.nx, hb, by rw [nx_new]; omega, by simp [Nat.add_comm], by rw [get_new, if_pos rfl]; simp [cI]⟩), (WidB.refl b h).new hb _⟩
      unfold appendA
      have hle : lenA (slOf (y :: ys)) = some ((y :: ys).map cI).length := by rw [slOf_av, lenA_ints, slL_list]
      have hc := ints_cell (l := y :: ys)
      have hk : ((y :: ys).map cI).flatten.length = (y :: ys).length := by rw [flat_len ints_len, List.length_map, Nat.mul_one]
      have e3 : Nat.ble (Nat.add 1 ((y :: ys).map cI).length) 1000000 = true := Nat.ble_eq_true_of_le (by simp; omega)
      have e4 : Nat.ble (Nat.add 1 ((y :: ys).map cI).length) 1 = false := by
        cases hh : Nat.ble (Nat.add 1 ((y :: ys).map cI).length) 1 with
        | false => rfl
        | true => exfalso; have := Nat.le_of_ble_eq_true hh; simp at this; omega
      have e5 : Nat.beq ((y :: ys).map cI).flatten.length (Nat.mul ((y :: ys).map cI).length 1) = true := by rw [hk, Nat.mul_eq, Nat.mul_one, List.length_map, Nat.beq_refl]
      dsimp only [T_int] at h4
      simp only [T_ints, T_int, ti26, ti3, hle, isSrc, h5, hc, e5, h4, e3, e4, Bool.and_true, Bool.true_and, cond_true, cond_false]
      rfl
theorem Ends_acc (hP : POk Tryz.prog F gl K) (x : LEnd) (h : Hp) : CallsT Tryz.prog F h (fun v g => Wid h g ∧ Acc h.nx g v (endsS x)) N_shape_Ends [.agg x.cells] := by
 refine CallsT.body hP nix_sound E_shape_Ends rfl rfl ?_
 by_cases hk : x.kind = 2 ∨ x.kind = 3
 ·have he : endsS x = [x.a] := by simp only [endsS, if_pos hk]
  rw [he]
  rcases hk with hk | hk
  ·repeat' first | refine TW.seq ?_ | refine TW.condT hP rfl ?_ | (refine TW.regG hP (by simp [hk] <;> rfl) ?_; dsimp only [goK]) | simp only [thenQ, blockQ, roundL, ↓reduceIte, Nat.reduceEqDiff, reduceCtorEq] | (refine TW.ret ⟨.inr rfl, _, _, rfl, rfl, ?_⟩; dsimp only [tupOf])
   all_goals first | exact ⟨((Wid.refl h).new _).new _, .inr ⟨h.nx + 1, x.a, by omega, by simp, rfl, by simp, rfl⟩⟩
  ·repeat' first | refine TW.seq ?_ | refine TW.condT hP rfl ?_ | (refine TW.regG hP (by simp [hk] <;> rfl) ?_; dsimp only [goK]) | simp only [thenQ, blockQ, roundL, ↓reduceIte, Nat.reduceEqDiff, reduceCtorEq] | (refine TW.ret ⟨.inr rfl, _, _, rfl, rfl, ?_⟩; dsimp only [tupOf])
   all_goals first | exact ⟨((Wid.refl h).new _).new _, .inr ⟨h.nx + 1, x.a, by omega, by simp, rfl, by simp, rfl⟩⟩
 ·have he : endsS x = [] := by simp only [endsS, if_neg hk]
  rw [he]
  repeat' first | refine TW.seq ?_ | refine TW.skip ?_ | refine TW.condF hP rfl ?_ | (refine TW.regG hP (by simp [(show ¬ x.kind = 2 by omega), (show ¬ x.kind = 3 by omega)] <;> rfl) ?_; dsimp only [goK]) | simp only [thenQ, blockQ, roundL, ↓reduceIte, Nat.reduceEqDiff, reduceCtorEq] | (refine TW.ret ⟨.inr rfl, _, _, rfl, rfl, ?_⟩; dsimp only [tupOf])
  all_goals first | exact ⟨(Wid.refl h).new _, .inl .nil⟩
end Go.Ax
set_option maxRecDepth 20000
noncomputable section
namespace Go.Ax
open Go.Proofs
attribute [local irreducible] TW TO CallsT PureC
variable {F : Nat → Option Obj} {gl : Nat → AV} {K : Knob} {S S' : Nat → Prop} {X : Type}
section
attribute [local semireducible] CallsT
theorem HRel.toUp {P : Program} {m : Loc} {h : Hp} {w : World} (hR : HRel P F m h w) : HRel P F m h.up w := ⟨fun r => by rw [up_get]; exact hR.obj r, fun r s => by rw [up_get, up_get]; exact hR.inj r s, fun r => by rw [up_get]; exact hR.out r, hR.frz, fun r => by rw [up_get, up_nx]; exact hR.wf r⟩
theorem Step.ofUp {P : Program} {m m' : Loc} {h h1 : Hp} {w w' : World} (hs : Step P F m h.up h1 w w' m') : Step P F m h h1.z w w' m' where
 le := hs.le
 new := by have := hs.new; simpa only [up_nx, nx_z] using this
 rel := ⟨fun r => by rw [get_z]; exact hs.rel.obj r, fun r s => by rw [get_z, get_z]; exact hs.rel.inj r s, fun r => by rw [get_z]; exact hs.rel.out r, hs.rel.frz, fun r => by rw [get_z, nx_z]; exact hs.rel.wf r⟩
 same := hs.same
 size := hs.size
 old := by have := hs.old; simpa only [up_get] using this
 nx := by have := hs.nx; rw [up_nx] at this; rw [nx_z]; exact this
 keep := by have := hs.keep; simpa only [up_get, get_z] using this
 mnew := by have := hs.mnew; simpa only [up_get, get_z] using this
 fnew := by have := hs.fnew; simpa only [up_get] using this
theorem CallsT.of_up {P : Program} {h h1 : Hp} {v : AV} {f : FuncId} {args : List AV} (hle : HpLe h.up h1) (hc : Calling P F h.up h1 v f args) : CallsT P F h (fun u g => u = v ∧ g = h1.z) f args :=
 .of_calling (h' := h1.z) ⟨by have := hle.nx; rw [up_nx] at this; rw [nx_z]; exact this, Nat.zero_le _, fun r h1 h2 => absurd h2 (Nat.not_lt_zero _), fun hw r hr => by rw [get_z]; exact hle.wf (by simpa only [up_nx, up_get] using hw) r (by rw [nx_z] at hr; exact hr)⟩ fun m w n cargs hR hA hF =>
  (hc m w n cargs (HRel.toUp hR) hA (fun r h1 h2 => hF r (by rw [up_nx] at h1; exact h1) (by rw [nx_z]; exact h2))).mono fun e w' ⟨cv, m', he, hst, hv⟩ =>
   ⟨cv, m', he, Step.ofUp hst, hv⟩
end
theorem Swap_call (hV : Env F gl K) (q : LProg) (f a b : Int) (hs : SmallP q) (ho : OpsP q) (h : Hp) (hw : ∀ r, h.nx ≤ r → h.get r = none) :
  CallsT Tryz.prog F h (fun v g => Wid h g ∧ h.nx < g.nx ∧ ∃ S, OutA (swapE q f a b) (outP (swapE q f a b) q.types.list (swapF q f a b)) v g S ∧ ∀ s, S s → h.nx ≤ s ∧ s < g.nx) N_tidy_Swap [.agg q.cells, .int .i64 f, .int .i64 a, .int .i64 b] := by
 obtain ⟨v, h1, S, oA, wA, wfA, rA, leA, cA, lA, nA⟩ := Swap_tell hV q f a b hs ho h.up (by rw [up_lo, up_nx]) (wf_up hw)
 refine (CallsT.of_up leA cA).mono fun u g ⟨e1, e2⟩ => ?_
 subst e1 e2
 rw [up_nx] at nA
 exact ⟨(wid_up wA).z, nA, S, OutA.locl _ _ _ _ oA (fun _ h => h) fun s _ => rfl, fun s hs => by have := rA s hs; rw [up_nx] at this; exact this⟩
end Go.Ax
set_option maxRecDepth 20000
noncomputable section
namespace Go.Ax
open Go.Proofs
attribute [local irreducible] TW TO CallsT PureC
variable {F : Nat → Option Obj} {gl : Nat → AV} {K : Knob} {S S' : Nat → Prop} {X : Type}
set_option maxHeartbeats 8000000 in
theorem TidySwaps_pure (hV : Env F gl K) (hlive : PureC Tryz.prog F N_fescuelaw27_alive [] (.bool true)) (p : LProg) (f a b : Int) (hb : ∀ f ∈ p.funcs.list, ∀ b ∈ f.blocks.list, b.ins.list.length < 4611686018427387904) (ho : OpsP p) :
    PureC Tryz.prog F N_fescuelaw27_TidySwaps [.agg p.cells, .int .i64 f, .int .i64 a, .int .i64 b] (.bool true) := by
  have hP := hV.P
  have hX := hV.X
  refine CallsT.pure (O := fun u _ => u = .bool true) (k := 1) (by simp) ?_ (fun u g e => by subst e; rfl)
  refine CallsT.body hP nix_sound E_fescuelaw27_TidySwaps rfl rfl ?_
  have e0 := Great6_pure hP p 100 (by decide) hb
  refine TW.seq (TW.regG hP (by simp <;> rfl) ?_)
  dsimp only [goK, thenQ, blockQ, roundL]
  refine TW.gen (fun g => g.get 0 = some (.cells 25 p.cells) ∧ g.nx = 1) ⟨by simp, by simp⟩ fun g hg => ?_
  obtain ⟨g0, hn⟩ := hg
  dsimp only [LProg.cells] at g0
  refine TW.wf fun hwf => ?_
  by_cases hgr : great6 p 100 = true
  · rw [hgr] at e0
    repeat' first | refine TW.seq ?_ | refine TW.condT hP rfl ?_ | (refine TW.regG hP (by simp [g0] <;> rfl) ?_; dsimp only [goK]) | (refine TO.scall hP I_fescueref06_Great (e0) ?_ rfl rfl rfl rfl ?_; (focus (simp; done)); refine TO.runsG hP (by simp <;> rfl) ?_; dsimp only [goK]) | (refine TO.scall hP I_fescuelaw27_alive (hlive) ?_ rfl rfl rfl rfl ?_; (focus (simp; done)); refine TO.runsG hP (by simp <;> rfl) ?_; dsimp only [goK]) | simp only [thenQ] | (refine TW.ret ⟨.inr rfl, _, _, rfl, rfl, ?_⟩; dsimp only [tupOf])
  rw [Bool.not_eq_true] at hgr
  rw [hgr] at e0
  obtain ⟨hs, hnf, hnt, hpt, hfu⟩ := great6_small (by decide) hgr
  repeat' first | refine TW.seq ?_ | refine TW.skip ?_ | refine TW.condF hP rfl ?_ | (refine TW.regG hP (by simp [g0] <;> rfl) ?_; dsimp only [goK]) | (refine TO.scall hP I_fescueref06_Great (e0) ?_ rfl rfl rfl rfl ?_; (focus (simp; done)); refine TO.runsG hP (by simp <;> rfl) ?_; dsimp only [goK]) | (refine TO.scall hP I_fescuelaw27_alive (hlive) ?_ rfl rfl rfl rfl ?_; (focus (simp; done)); refine TO.runsG hP (by simp <;> rfl) ?_; dsimp only [goK])
  refine TO.ccall hP I_tidy_Swap (Swap_call hV p f a b hs ho g hwf) (by simp) rfl rfl rfl rfl (fun v g1 ⟨w1, n1, S, oA, rS⟩ => ?_)
  obtain ⟨tv, fv, fs, SF, rfl, ⟨p1, p2, p3, p4⟩, rd, _, _, _, _⟩ := oA
  refine TO.runsG hP (by simp [p2, p4] <;> rfl) ?_
  dsimp only [goK, thenQ]
  refine TW.gen (fun m => m.get 0 = some (.cells 25 p.cells) ∧ m.get g1.nx = some (.cells 25 [tv, fv]) ∧ RdF S m 20 (.agg [tv, fv]) (.agg (outP (swapE p f a b) p.types.list (swapF p f a b)).cells) ∧ m.nx = g1.nx + 1) ⟨?_, ?_, ?_, ?_⟩ fun m hm => ?_
  · rw [get_put, if_neg (by have := w1.nx; omega), get_new, if_neg (by have := w1.nx; omega), w1.get 0 (by omega)]; exact g0
  · rw [get_put, if_pos rfl]
  · exact rd.mono (fun _ h => h) fun s hs => by have := rS s hs; rw [get_put, if_neg (by omega), get_new, if_neg (by omega)]
  · rw [nx_put, nx_new]
  obtain ⟨m0, m1, mr, mn⟩ := hm
  dsimp only [LProg.cells] at m0
  clear rd w1 n1 hwf g0 hn
  have fA := fun (L : Hp) (v : LProg) => (show frzV 20 L (.agg [v.types.av LType.cells, v.funcs.av LFunc.cells]) = some (.agg v.cells) by
    show frzV 20 L (.agg v.cells) = _
    rw [show v.cells = [v.types.av LType.cells, v.funcs.av LFunc.cells] from rfl]
    unfold frzV
    dsimp only
    simp only [mapO, frz_av nr_type, frz_av nr_func])
  by_cases he : swapE p f a b = 0
  · by_cases hab : a = b
    · subst hab
      have s1 := shape_Same_pure hP hX hV.E p (normP (swapQ p f a a)) hs
      rw [swap_self he] at s1
      rw [he] at mr
      repeat' first | refine TW.seq ?_ | refine TW.condT hP rfl ?_ | (refine TW.regG hP (by simp [m0, m1, he] <;> rfl) ?_; dsimp only [goK])
      have mq : frzV 20 m (.agg [tv, fv]) = some (.agg (normP (swapQ p f a a)).cells) := mr m fun _ _ => rfl
      refine TO.zcall hP I_shape_Same s1 (by simp) rfl rfl rfl (by simp <;> rfl) (.cons (fA m p) (.cons mq .nil)) rfl ?_
      refine TO.runsG hP (by simp <;> rfl) ?_
      dsimp only [goK, thenQ]
      exact TW.ret ⟨.inr rfl, _, _, rfl, rfl, rfl⟩
    · rw [he] at mr
      have mq : RdF S m 20 (.agg [tv, fv]) (.agg (normP (swapQ p f a b)).cells) := mr
      obtain ⟨q, hq⟩ : ∃ q, q = normP (swapQ p f a b) := ⟨_, rfl⟩
      have q1 := swap_again_same he
      have q2 := swapQ_may he
      have q3 := swapQ_asked he
      have q4 := (swap_again he).1
      have q5 := fun y => swap_free he hab (y := y)
      obtain ⟨x, _, hx, _, _, hF⟩ := swapE_ok he
      have q6 := swapQ_at he hx
      have sq : SmallP q := by rw [hq]; show SmallP (asReadP p.types.list (swapF p f a b)); exact SmallP.read (by have := hs.nt; omega) (fun x hx => by have := hs.parts x hx; omega) (by have := swap_nlen p f a b; have := hs.nf; omega) (small_swap hs f a b)
      have oq : OpsP q := by
        refine ⟨fun z hz => ⟨fun c hc u hu => ?_⟩⟩
        rw [hq] at hz
        obtain ⟨z', hz', rfl⟩ := List.mem_map.1 (show z ∈ (swapF p f a b).map asReadF from hz)
        obtain ⟨d, hd, rfl⟩ := List.mem_map.1 (show c ∈ z'.blocks.list.map asReadB from hc)
        obtain ⟨w, hw, rfl⟩ := List.mem_map.1 (show u ∈ d.ins.list.map asRead from hu)
        show 0 ≤ w.op ∧ w.op < 256
        rw [hF] at hz'
        rcases List.mem_or_eq_of_mem_set hz' with h1 | rfl
        · exact (ho.op z' h1).op d hd w hw
        · obtain ⟨d', hd', rfl⟩ := List.mem_map.1 (show d ∈ x.blocks.list.map (turnK (swapT a b)) from hd)
          obtain ⟨w', hw', rfl⟩ := List.mem_map.1 (show w ∈ d'.ins.list.map (turnX (swapT a b)) from hw)
          exact (ho.op x (List.mem_of_getElem? hx)).op d' hd' w' hw'
      rw [← hq] at mq q1 q2 q3 q4 q5 q6
      obtain ⟨y, hy⟩ : ∃ y, y = asReadF (turnedF (swapT a b) x) := ⟨_, rfl⟩
      rw [← hy] at q6
      have q9 := q5 y q6
      have sy := sq.funcs y (List.mem_of_getElem? q6)
      obtain ⟨c1, c2, c3⟩ := asked6_ok q3
      obtain ⟨fn, rfl⟩ := Int.eq_ofNat_of_zero_le c2
      have q6 : q.funcs.list[fn]? = some y := q6
      repeat refine TW.seq ?_
      refine TW.regG hP (by simp [he, hab] <;> rfl) ?_
      dsimp only [goK, thenQ]
      refine TW.condF hP rfl ?_
      refine TW.skip ?_
      dsimp only [thenQ]
      refine TW.freeze (l' := [(1, .int .i64 fn), (2, .int .i64 a), (3, .int .i64 b), (9, .bool true), (10, .iptr [q.cells] 0 0)]) (fun _ => True) (frz_keep rfl (frz_keep rfl (frz_keep rfl (frz_keep rfl (frz_turn (k := 20) rfl (fun G hG => ?_) frz_nil))))) ?_
      · have h1 : G.get g1.nx = _ := (hG g1.nx trivial).trans m1
        have h2 := mq G fun s _ => hG s trivial
        unfold frzV at h2 ⊢
        dsimp only at h2 ⊢
        rw [h1]
        dsimp only
        cases hm : mapO (frzV 19 G) [tv, fv] with
        | none => rw [hm] at h2; cases h2
        | some l =>
          rw [hm] at h2
          dsimp only at h2 ⊢
          cases h2
          rfl
      refine TW.gen (fun _ => True) trivial fun G _ => ?_
      clear mr mq m0 m1 mn rS p1 p2 p3 p4 e0
      have hqv := av_pos (e := LFunc.cells) (show 0 < q.funcs.list.length by omega)
      have bin : ∀ c ∈ y.blocks.list, ∃ d ∈ x.blocks.list, c.ins.list.length = d.ins.list.length ∧ ∀ u ∈ c.ins.list, ∃ w ∈ d.ins.list, u.op = w.op ∧ u.args.list.length = w.args.list.length := fun c hc => by
        rw [hy] at hc
        obtain ⟨d, hd, rfl⟩ := List.mem_map.1 (show c ∈ (turnedF (swapT a b) x).blocks.list.map asReadB from hc)
        obtain ⟨u, hu, rfl⟩ := List.mem_map.1 (show d ∈ x.blocks.list.map (turnK (swapT a b)) from hd)
        refine ⟨u, hu, by show ((turnK (swapT a b) u).ins.list.map asRead).length = _; rw [List.length_map, turnK_len], fun z hz => ?_⟩
        obtain ⟨v, hv, rfl⟩ := List.mem_map.1 (show z ∈ (turnK (swapT a b) u).ins.list.map asRead from hz)
        obtain ⟨w, hw, rfl⟩ := List.mem_map.1 (show v ∈ u.ins.list.map (turnX (swapT a b)) from hv)
        exact ⟨w, hw, rfl, List.length_map ..⟩
      have hxm := List.mem_of_getElem? hx
      have hyl : y.blocks.list.length ≤ 20 := by
        rw [hy]
        show ((turnedF (swapT a b) x).blocks.list.map asReadB).length ≤ 20
        rw [List.length_map]
        show (x.blocks.list.map (turnK (swapT a b))).length ≤ 20
        rw [List.length_map]
        exact (hfu x hxm).1
      have bnd : ∀ c ∈ y.blocks.list, c.ins.list.length ≤ 100 ∧ ∀ u ∈ c.ins.list, (0 ≤ u.op ∧ u.op < 256) ∧ u.args.list.length ≤ 20 := fun c hc => by
        obtain ⟨d, hd, e1, e2⟩ := bin c hc
        obtain ⟨_, h3, h4⟩ := hfu x hxm
        refine ⟨?_, fun u hu => ?_⟩
        · rcases h4 with h4 | h4
          · have := many6_mem hd; omega
          · rw [h4] at hd; cases hd
        · obtain ⟨w, hw, e3, e4⟩ := e2 u hu
          exact ⟨by rw [e3]; exact (ho.op x hxm).op d hd w hw, by rw [e4]; exact (h3 d hd w hw).1⟩
      repeat' first | refine TW.seq ?_ | refine TW.block ?_ | refine TW.skip ?_ | refine TW.condF hP rfl ?_ | (refine TW.regG hP (by simp [hqv, show ¬ (fn : Int) < 0 by omega, show ¬ (q.funcs.list.length : Int) ≤ fn by omega] <;> rfl) ?_; dsimp only [goK])
      refine TW.loopL (fun i : Nat => [(1, .int .i64 fn), (2, .int .i64 a), (3, .int .i64 b), (9, .bool true), (10, .iptr [q.cells] 0 0), (12, .int .i64 i)]) (fun i _ => i ≤ y.blocks.list.length) (fun i => y.blocks.list.length - i) (0) ?_ ?_ ?_
      focus (repeat' first | exact less_nil | refine less_cons (by simp [hqv]) ?_)
      · exact Nat.zero_le _
      rintro i g hi
      have hbl := fun g => len_of (C := Ctx.of Tryz.prog gl K) (t := T_blocks) (h := g) (lenA_av (e := LBlock.cells) y.blocks) (fun s => by cases y.blocks <;> simp [Sl.av])
      dsimp only [T_blocks] at hbl
      repeat' first | refine TW.seq ?_ | (refine TW.regG hP (by simp [hqv, q6, hbl] <;> rfl) ?_; dsimp only [goK]) | simp only [thenQ]
      refine TW.cond hP rfl (fun hc => TW.skip ?_) (fun hc => TW.exit ?_)
      · simp at hc
        obtain ⟨c, hcc⟩ := get_of_lt hc
        have hci := hc
        have hyv := av_pos (e := LBlock.cells) (show 0 < y.blocks.list.length by omega)
        obtain ⟨u1, u2⟩ := bnd c (List.mem_of_getElem? hcc)
        obtain ⟨f1, f2⟩   := q9 c (List.mem_of_getElem? hcc)
        dsimp only [thenQ]
        repeat' first | refine TW.seq ?_ | refine TW.block ?_ | (refine TW.regG hP (by simp [q6, hyv, hcc] <;> rfl) ?_; dsimp only [goK])
        refine TO.ccall hP I_shape_Ends (Ends_acc hP c.ed g) (by simp) rfl rfl rfl rfl (fun rv g2 ⟨w2, ac⟩ => ?_)
        refine TO.runsG hP (by simp <;> rfl) ?_
        try dsimp only [goK]
        dsimp only [thenQ]
        have hil := fun g => len_of (C := Ctx.of Tryz.prog gl K) (t := T_inss) (h := g) (lenA_av (e := LIns.cells) c.ins) (fun s => by cases c.ins <;> simp [Sl.av])
        dsimp only [T_inss] at hil
        have hel : (endsS c.ed).length ≤ 1 := by unfold endsS; split <;> simp
        repeat' first | refine TW.seq ?_ | refine TW.block ?_ | (refine TW.regG hP (by simp <;> rfl) ?_; dsimp only [goK])
        refine TW.loopL (fun (z : Nat × AV) => [(1, .int .i64 fn), (2, .int .i64 a), (3, .int .i64 b), (9, .bool true), (10, .iptr [q.cells] 0 0), (12, .int .i64 i), (13, z.2), (14, .int .i64 z.1)]) (fun z g => z.1 ≤ c.ins.list.length ∧ ∃ l, Acc 0 g z.2 l ∧ (∀ r ∈ l, r ≠ a) ∧ l.length ≤ 1 + 22 * z.1) (fun z => c.ins.list.length - z.1) ((0, rv)) ?_ ?_ ?_
        focus (repeat' first | exact less_nil | refine less_cons (by simp [hqv]) ?_)
        · exact ⟨Nat.zero_le _, _, ac.mono (Nat.zero_le _), f1, by omega⟩
        rintro ⟨j, v⟩ g3 ⟨hj, l, a1, a2, a3⟩
        dsimp only at hj a1 a3
        repeat' first | refine TW.seq ?_ | (refine TW.regG hP (by simp [hqv, q6, hyv, hcc, hil] <;> rfl) ?_; dsimp only [goK]) | simp only [thenQ]
        refine TW.cond hP rfl (fun hc => TW.skip ?_) (fun hc => TW.exit ?_)
        · simp at hc
          obtain ⟨u, hu⟩ := get_of_lt hc
          have hcj := hc
          have hiv := av_pos (e := LIns.cells) (show 0 < c.ins.list.length by omega)
          obtain ⟨v1, v2⟩ := u2 u (List.mem_of_getElem? hu)
          have hul := uses6_le u
          have ep := Uses_pure hP hV.G u v1.1 v1.2 (by omega)
          obtain ⟨v', g4, happ, a4, hwb⟩ := a1.app (gl := gl) (K := K) (Nat.zero_le _) (uses6 u) (by omega)
          dsimp only [T_ints] at happ
          dsimp only [thenQ]
          repeat' first | refine TW.seq ?_ | refine TW.block ?_ | (refine TW.regG hP (by simp [q6, hyv, hcc, hiv, hu] <;> rfl) ?_; dsimp only [goK]) | (refine TO.scall hP I_shape_Uses (ep) ?_ rfl rfl rfl rfl ?_; (focus (simp; done)); refine TO.runsG hP (by simp [happ] <;> rfl) ?_; dsimp only [goK]) | simp only [roundL]
          refine ⟨(j + 1, v'), by dsimp only; omega, trivial, ?_, hcj, l ++ uses6 u, a4, fun r hr => ?_, ?_⟩
          · repeat' first | exact less_nil | refine less_cons (by simp [hqv, w64s (show j < 9000000000000000000 by omega)]) ?_
          · rcases List.mem_append.1 hr with h1 | h1
            · exact a2 r h1
            · exact f2 u (List.mem_of_getElem? hu) r h1
          · rw [List.length_append]; dsimp only; omega
        · simp at hc
          have hrd := a1.rd
          have hl := fun g => hrd.lenOf (slt_ints (gl := gl) (K := K)) g
          dsimp only [T_ints, T_int] at hl
          dsimp only [thenQ]
          repeat' first | refine TW.seq ?_ | refine TW.block ?_ | (refine TW.regG hP (by simp <;> rfl) ?_; dsimp only [goK])
          refine TW.loopL (fun k : Nat => [(1, .int .i64 fn), (2, .int .i64 a), (3, .int .i64 b), (9, .bool true), (10, .iptr [q.cells] 0 0), (12, .int .i64 i), (13, v), (15, .int .i64 k)]) (fun k g => k ≤ l.length ∧ Wid g3 g) (fun k => l.length - k) (0) ?_ ?_ ?_
          focus (repeat' first | exact less_nil | refine less_cons (by simp [hqv]) ?_)
          · exact ⟨Nat.zero_le _, .refl _⟩
          rintro k g5 ⟨hk, hw5⟩
          repeat' first | refine TW.seq ?_ | (refine TW.regG hP (by simp [hl] <;> rfl) ?_; dsimp only [goK]) | simp only [thenQ]
          refine TW.cond hP rfl (fun hc => TW.skip ?_) (fun hc => TW.exit ?_)
          · simp at hc
            have hck := hc
            obtain ⟨pt, hp1, hp2⟩ := (hrd.wid hw5).at' (slt_ints (gl := gl) (K := K)) (by simp) (q := .i64) hck
            have hp2 := hp2 g5 (.refl _)
            dsimp only [T_ints, T_int] at hp1 hp2
            have hne : l[k] ≠ a := a2 _ (List.getElem_mem hck)
            dsimp only [thenQ]
            repeat' first | refine TW.seq ?_ | refine TW.block ?_ | refine TW.skip ?_ | refine TW.condF hP rfl ?_ | (refine TW.regG hP (by simp [hp1, hp2, hne] <;> rfl) ?_; dsimp only [goK]) | simp only [roundL]
            refine ⟨k + 1, by omega, trivial, ?_, by omega, hw5⟩
            repeat' first | exact less_nil | refine less_cons (by simp [hqv, w64s (show k < 9000000000000000000 by omega)]) ?_
          · simp at hc
            dsimp only [thenQ]
            repeat' first | (refine TW.regG hP (by simp <;> rfl) ?_; dsimp only [goK]) | simp only [roundL]
            refine ⟨i + 1, by omega, trivial, ?_, by omega⟩
            repeat' first | exact less_nil | refine less_cons (by simp [hqv, w64s (show i < 9000000000000000000 by omega)]) ?_
      · simp at hc
        dsimp only [thenQ, blockQ, roundL]
        refine TW.wf fun hwf2 => ?_
        have r1 := shape_Same_pure hP hX hV.E (outP 0 q.types.list (swapF q fn a b)) q (small_outP sq (by have := swap_nlen q fn a b; have := sq.nf; omega) (small_swap sq fn a b))
        rw [q1] at r1
        have r2 := shape_Check_pure hV q sq oq
        rw [q2] at r2
        repeat' first | refine TW.seq ?_ | (refine TW.regG hP (by simp <;> rfl) ?_; dsimp only [goK])
        refine TO.ccall hP I_tidy_Swap (Swap_call hV q fn a b sq oq g hwf2) (by simp) rfl rfl rfl (by rw [← hqv]; rfl) (fun v2 g2 ⟨w2, n2, S2, oB, rS2⟩ => ?_)
        rw [q4] at oB
        obtain ⟨tv2, fv2, fs2, SF2, rfl, ⟨p5, p6, p7, p8⟩, rd2, _, _, _, _⟩ := oB
        refine TO.runsG hP (by simp [p6, p8] <;> rfl) ?_
        dsimp only [goK, thenQ]
        refine TW.gen (fun m => m.get g2.nx = some (.cells 25 [tv2, fv2]) ∧ RdF S2 m 20 (.agg [tv2, fv2]) (.agg (outP 0 q.types.list (swapF q fn a b)).cells)) ⟨?_, ?_⟩ fun m3 hm3 => ?_
        · rw [get_put, if_pos rfl]
        · exact rd2.mono (fun _ h => h) fun s hs => by have := rS2 s hs; rw [get_put, if_neg (by omega), get_new, if_neg (by omega)]
        obtain ⟨m4, m5⟩ := hm3
        have m6 : frzV 20 m3 (.agg [tv2, fv2]) = _ := m5 m3 fun _ _ => rfl
        repeat' first | refine TW.seq ?_ | (refine TW.regG hP (by simp [m4] <;> rfl) ?_; dsimp only [goK])
        refine TO.zcall hP I_shape_Same r1 (by simp) rfl rfl rfl (by simp <;> rfl) (.cons m6 (.cons (by rw [← hqv]; exact fA m3 q) .nil)) rfl ?_
        refine TO.runsG hP (by simp <;> rfl) ?_
        dsimp only [goK]
        refine TO.zcall hP I_shape_Check r2 (by simp) rfl rfl rfl (by simp <;> rfl) (.cons (by rw [← hqv]; exact fA m3 q) .nil) rfl ?_
        refine TO.runsG hP (by simp <;> rfl) ?_
        dsimp only [goK, thenQ]
        exact TW.ret ⟨.inr rfl, _, _, rfl, rfl, rfl⟩
  · repeat' first | refine TW.seq ?_ | refine TW.condT hP rfl ?_ | (refine TW.regG hP (by simp [he] <;> rfl) ?_; dsimp only [goK]) | simp only [thenQ] | (refine TW.ret ⟨.inr rfl, _, _, rfl, rfl, ?_⟩; dsimp only [tupOf])
end Go.Ax
namespace Go.Proofs.YtflfodegogjefaaGreatDoor
open Go.ChangeShapes Go.WideShapes Go.ChangeAt Go.WideMaps Go.WideElems Go.RowKit Go.Ax
abbrev laidR : List (String × DataW Unit) := [("fescue/shape.table", Rows.laid_fescue_shape_table)]
theorem own : ownKnob Tryz.prog.godebug = none := by kernel_rfl
theorem gTable : Tryz.prog.globalNamed "fescue/shape.table" = some 0 := by kernel_rfl
theorem door_met (os : Os) (args : Array Value) : laidMetH Tryz.prog laidR ((World.doorLaid Tryz.prog 500 os).forCall (fun _ _ => 0) ⟨#[], args, []⟩).memory :=
 laidMetH_of_parts3 (fuel := 8) (laidMet_of_run' 8 (by kernel_rfl) (by kernel_rfl)) (by kernel_rfl) (by kernel_rfl)
abbrev tabR : List (Nat × List AV) := [(0, shapeCells)]
abbrev eqR : List Nat := [284, T_end, T_has]
abbrev extR : FuncId → List AV → Option AV := extF 253 213
noncomputable abbrev kn (T : Tab) : Knob := knobX eqR T extR fun _ _ _ => none
noncomputable abbrev cx (T : Tab) : Ctx := Ctx.of Tryz.prog (glOf tabR) (kn T)
theorem flatR : flatD (cx []) 4 (((Tryz.prog.globals[0]?).map (·.type)).getD 0) Rows.laid_fescue_shape_table = some shapeCells := by kernel_rfl
theorem known {W : World} (h : laidMetH Tryz.prog laidR W) : Known Tryz.prog W tabR := by
 have h' : laidMet Tryz.prog [("fescue/shape.table", Rows.laid_fescue_shape_table)] W := h
 obtain ⟨ps, ⟨g1, t1, cs1, fuel1, p1, q1, hg1, ht1, hv1, htr1, _, _⟩, _, _⟩ := h'
 obtain rfl := Option.some.inj (gTable.symm.trans hg1)
 intro g l hm
 cases List.mem_singleton.1 hm
 have hf := flatR
 rw [ht1] at hf
 simp only [World.var?, gTable, Option.bind_some] at hv1
 split at hv1
 case h_2 => cases hv1
 rename_i arr e fz hw
 cases hv1
 exact ⟨_, _, _, hw, fun m => flatD_rel 4 _ _ _ fuel1 _ p1 hf htr1⟩
theorem eqsR : (eqR.all (eqCheck Tryz.prog)) = true := by kernel_rfl
theorem namesR : (Tryz.prog.funcs.all fun fn => !(fn.body.isSome && fn.name == "runtime.NumGoroutine")) = true := by kernel_rfl
theorem mixedR : Tryz.prog.follows .mixedOrders = true := by kernel_rfl
theorem extsR {F : Nat → Option Obj} : ExtOk Tryz.prog F extR :=
 extOk_of (show Tryz.prog.funcs[253]? = some Tryz.f253 by kernel_rfl) (by kernel_rfl) (by kernel_rfl) (by kernel_rfl) (by kernel_rfl) (show Tryz.prog.funcs[213]? = some Tryz.f213 by kernel_rfl) (by kernel_rfl) (by kernel_rfl) (by kernel_rfl) (by kernel_rfl)
theorem pok {W : World} (h : laidMetH Tryz.prog laidR W) {T : Tab} (hT : AllPure Tryz.prog (Go.Ax.frozen W) T) : POk Tryz.prog (Go.Ax.frozen W) (glOf tabR) (kn T) := pok_ofX (known h) eqsR namesR mixedR hT extsR (fun _ _ _ _ _ h => by cases h)
theorem envR {W : World} (h : laidMetH Tryz.prog laidR W) : Env (Go.Ax.frozen W) (glOf tabR) (knob eqR []) :=
 ⟨pok_of (known h) eqsR namesR mixedR .nil, rfl, rfl, rfl, fun _ _ => rfl⟩
theorem laidOut : laidOutB Tryz.prog = true := by kernel_rfl
theorem mapsR : mapsRowed Tryz.prog = true := by kernel_rfl
theorem slicesR : ((List.range Tryz.prog.types.size).all fun t => match Tryz.prog.underlying t with | some (.slice e) => decide (0 < Tryz.prog.cellsOf e) | _ => true) = true := by kernel_rfl
theorem size26 : 26 < Tryz.prog.types.size := of_decide_eq_true (by kernel_rfl)
def zeroP : Value := .agg #[.slice none 0 0, .slice none 0 0]
end Go.Proofs.YtflfodegogjefaaGreatDoor
namespace Go.Proofs.YtflfodegogjefaaGreatDoor
open Go.Ax
def iQ (n : Nat) : AV := .int .i64 (.ofNat n)
def uQ (n : Nat) : AV := .int .u64 (.ofNat n)
def bQ (n : Nat) : AV := .int .u8 (.ofNat n)
def lQ0 : List AV := [.str [116, 121, 112, 101, 32, 105, 110, 116, 10, 116, 121, 112, 101, 32, 112, 116, 114, 32, 116, 48, 10, 116, 121, 112, 101, 32, 102, 110, 32, 116, 48, 10, 102, 117, 110, 99, 32, 116, 50, 10, 98, 108, 111, 99, 107, 10, 114, 48, 32, 116, 48, 32, 61, 32, 105, 110, 116, 32, 49, 10, 114, 49, 32, 116, 48, 32, 61, 32, 105, 110, 116, 32, 50, 10, 114, 50, 32, 116, 48, 32, 61, 32, 97, 100, 100, 32, 114, 49, 32, 114, 49, 10, 112, 114, 105, 110, 116, 32, 114, 48, 10, 114, 101, 116, 117, 114, 110, 32, 114, 48, 10]]
def lQ1 : List AV := [.str [116, 121, 112, 101]]
def vQ2 : AV := .isl [[bQ 1, iQ 0, iQ 0, .nilsl], [bQ 2, iQ 0, iQ 0, .nilsl], [bQ 3, iQ 0, iQ 0, .nilsl]]
def lQ3 : List AV := [bQ 1, iQ 0, iQ 0, iQ 0, iQ 1, .nilsl, .nilsl]
def lQ4 : List AV := [bQ 21, iQ 0, iQ 0, iQ 0, iQ 0, .nilsl, .nilsl]
def vQ5 : AV := .agg [vQ2, .isl [[iQ 2, .isl [[.isl [lQ3, [bQ 1, iQ 0, iQ 0, iQ 0, iQ 2, .nilsl, .nilsl], [bQ 4, iQ 0, iQ 1, iQ 1, iQ 0, .nilsl, .nilsl], lQ4], bQ 3, iQ 0, iQ 0, iQ 0]]]]]
def vQ6 : AV := .tup [.isl [[iQ 0]], iQ 0]
def vQ7 : AV := .agg [vQ2, .isl [[iQ 2, .isl [[.isl [lQ3, lQ4], bQ 3, iQ 0, iQ 0, iQ 0]]]]]
def eQ0 : Nat × List AV × AV := (106, lQ0, .tup [.isl [[.isl [lQ1, [.str [105, 110, 116]]]], [.isl [lQ1, [.str [112, 116, 114]], [.str [116, 48]]]], [.isl [lQ1, [.str [102, 110]], [.str [116, 48]]]], [.isl [[.str [102, 117, 110, 99]], [.str [116, 50]]]], [.isl [[.str [98, 108, 111, 99, 107]]]], [.isl [[.str [114, 48]], [.str [116, 48]], [.str [61]], [.str [105, 110, 116]], [.str [49]]]], [.isl [[.str [114, 49]], [.str [116, 48]], [.str [61]], [.str [105, 110, 116]], [.str [50]]]], [.isl [[.str [114, 50]], [.str [116, 48]], [.str [61]], [.str [97, 100, 100]], [.str [114, 49]], [.str [114, 49]]]], [.isl [[.str [112, 114, 105, 110, 116]], [.str [114, 48]]]], [.isl [[.str [114, 101, 116, 117, 114, 110]], [.str [114, 48]]]]], iQ 0])
def eQ1 : Nat × List AV × AV := (78, lQ0, .tup [vQ5, iQ 0])
def eQ2 : Nat × List AV × AV := (53, [vQ2], iQ 0)
def eQ3 : Nat × List AV × AV := (18, [vQ5], iQ 0)
def eQ4 : Nat × List AV × AV := (179, [vQ5, iQ 0], vQ6)
def eQ5 : Nat × List AV × AV := (250, [vQ5, iQ 0], vQ6)
def eQ6 : Nat × List AV × AV := (198, [vQ5, iQ 0], .tup [.isl [[.int .i64 (.negSucc 0)]], iQ 0])
def eQ7 : Nat × List AV × AV := (203, [vQ5, iQ 0, iQ 0], .tup [.nilsl, iQ 0])
def eQ8 : Nat × List AV × AV := (109, [vQ5], iQ 0)
def eQ9 : Nat × List AV × AV := (79, [vQ5], .tup [vQ7, iQ 0])
def eQ10 : Nat × List AV × AV := (18, [vQ7], iQ 0)
def eQ11 : Nat × List AV × AV := (80, [vQ7], .tup [.str [116, 121, 112, 101, 32, 105, 110, 116, 10, 116, 121, 112, 101, 32, 112, 116, 114, 32, 116, 48, 10, 116, 121, 112, 101, 32, 102, 110, 32, 116, 48, 10, 102, 117, 110, 99, 32, 116, 50, 10, 98, 108, 111, 99, 107, 10, 114, 48, 32, 116, 48, 32, 61, 32, 105, 110, 116, 32, 49, 10, 112, 114, 105, 110, 116, 32, 114, 48, 10, 114, 101, 116, 117, 114, 110, 32, 114, 48, 10], iQ 0])
def eQ12 : Nat × List AV × AV := (43, [.str [102, 117, 110, 99, 32, 116, 50, 10, 98, 108, 111, 99, 107, 10, 114, 48, 32, 116, 48, 32, 61, 32, 105, 110, 116, 32, 49, 10, 114, 49, 32, 116, 48, 32, 61, 32, 105, 110, 116, 32, 50, 10, 114, 50, 32, 116, 48, 32, 61, 32, 97, 100, 100, 32, 114, 49, 32, 114, 49, 10, 112, 114, 105, 110, 116, 32, 114, 48, 10, 114, 101, 116, 117, 114, 110, 32, 114, 48, 10], .str [102, 117, 110, 99, 32, 116, 50, 10, 98, 108, 111, 99, 107, 10, 114, 48, 32, 116, 48, 32, 61, 32, 105, 110, 116, 32, 49, 10, 112, 114, 105, 110, 116, 32, 114, 48, 10, 114, 101, 116, 117, 114, 110, 32, 114, 48, 10]], .bool true)
end Go.Proofs.YtflfodegogjefaaGreatDoor
namespace Go.Proofs.YtflfodegogjefaaGreatDoor
open Go.Ax
theorem runQ0 : pureOk 1000 (eQ0).2.2 (call Tryz.prog (cx []) 20000 (eQ0).1 (eQ0).2.1 h0) = true := by kernel_rfl
theorem runQ1 : pureOk 1000 (eQ1).2.2 (call Tryz.prog (cx [eQ0]) 20000 (eQ1).1 (eQ1).2.1 h0) = true := by kernel_rfl
theorem runQ2 : pureOk 1000 (eQ2).2.2 (call Tryz.prog (cx []) 20000 (eQ2).1 (eQ2).2.1 h0) = true := by kernel_rfl
theorem runQ3 : pureOk 1000 (eQ3).2.2 (call Tryz.prog (cx [eQ2]) 20000 (eQ3).1 (eQ3).2.1 h0) = true := by kernel_rfl
theorem runQ4 : pureOk 1000 (eQ4).2.2 (call Tryz.prog (cx [eQ3]) 20000 (eQ4).1 (eQ4).2.1 h0) = true := by kernel_rfl
theorem runQ5 : pureOk 1000 (eQ5).2.2 (call Tryz.prog (cx [eQ3]) 20000 (eQ5).1 (eQ5).2.1 h0) = true := by kernel_rfl
theorem runQ6 : pureOk 1000 (eQ6).2.2 (call Tryz.prog (cx [eQ4, eQ5]) 20000 (eQ6).1 (eQ6).2.1 h0) = true := by kernel_rfl
theorem runQ7 : pureOk 1000 (eQ7).2.2 (call Tryz.prog (cx [eQ3]) 20000 (eQ7).1 (eQ7).2.1 h0) = true := by kernel_rfl
theorem runQ8 : pureOk 1000 (eQ8).2.2 (call Tryz.prog (cx [eQ3, eQ4, eQ6, eQ7]) 20000 (eQ8).1 (eQ8).2.1 h0) = true := by kernel_rfl
end Go.Proofs.YtflfodegogjefaaGreatDoor
namespace Go.Proofs.YtflfodegogjefaaGreatDoor
open Go.Ax
theorem runQ9 : pureOk 1000 (eQ9).2.2 (call Tryz.prog (cx [eQ8]) 20000 (eQ9).1 (eQ9).2.1 h0) = true := by kernel_rfl
theorem runQ10 : pureOk 1000 (eQ10).2.2 (call Tryz.prog (cx [eQ2]) 20000 (eQ10).1 (eQ10).2.1 h0) = true := by kernel_rfl
theorem runQ11 : pureOk 1000 (eQ11).2.2 (call Tryz.prog (cx [eQ10]) 20000 (eQ11).1 (eQ11).2.1 h0) = true := by kernel_rfl
theorem runQ12 : pureOk 1000 (eQ12).2.2 (call Tryz.prog (cx [eQ1, eQ9, eQ11]) 20000 (eQ12).1 (eQ12).2.1 h0) = true := by kernel_rfl
end Go.Proofs.YtflfodegogjefaaGreatDoor
namespace Go.Proofs.YtflfodegogjefaaGreatDoor
open Go.Ax
section
variable {W : World} (h : laidMetH Tryz.prog laidR W)
include h
theorem isQ0 : PureC Tryz.prog (Go.Ax.frozen W) (eQ0).1 (eQ0).2.1 (eQ0).2.2 := pure_of_run (pok h (T := []) (.nil)) (by kernel_rfl) runQ0
theorem isQ1 : PureC Tryz.prog (Go.Ax.frozen W) (eQ1).1 (eQ1).2.1 (eQ1).2.2 := pure_of_run (pok h (T := [eQ0]) (.cons (isQ0 h) (.nil))) (by kernel_rfl) runQ1
theorem isQ2 : PureC Tryz.prog (Go.Ax.frozen W) (eQ2).1 (eQ2).2.1 (eQ2).2.2 := pure_of_run (pok h (T := []) (.nil)) (by kernel_rfl) runQ2
theorem isQ3 : PureC Tryz.prog (Go.Ax.frozen W) (eQ3).1 (eQ3).2.1 (eQ3).2.2 := pure_of_run (pok h (T := [eQ2]) (.cons (isQ2 h) (.nil))) (by kernel_rfl) runQ3
theorem isQ4 : PureC Tryz.prog (Go.Ax.frozen W) (eQ4).1 (eQ4).2.1 (eQ4).2.2 := pure_of_run (pok h (T := [eQ3]) (.cons (isQ3 h) (.nil))) (by kernel_rfl) runQ4
theorem isQ5 : PureC Tryz.prog (Go.Ax.frozen W) (eQ5).1 (eQ5).2.1 (eQ5).2.2 := pure_of_run (pok h (T := [eQ3]) (.cons (isQ3 h) (.nil))) (by kernel_rfl) runQ5
theorem isQ6 : PureC Tryz.prog (Go.Ax.frozen W) (eQ6).1 (eQ6).2.1 (eQ6).2.2 := pure_of_run (pok h (T := [eQ4, eQ5]) (.cons (isQ4 h) (.cons (isQ5 h) (.nil)))) (by kernel_rfl) runQ6
theorem isQ7 : PureC Tryz.prog (Go.Ax.frozen W) (eQ7).1 (eQ7).2.1 (eQ7).2.2 := pure_of_run (pok h (T := [eQ3]) (.cons (isQ3 h) (.nil))) (by kernel_rfl) runQ7
theorem isQ8 : PureC Tryz.prog (Go.Ax.frozen W) (eQ8).1 (eQ8).2.1 (eQ8).2.2 := pure_of_run (pok h (T := [eQ3, eQ4, eQ6, eQ7]) (.cons (isQ3 h) (.cons (isQ4 h) (.cons (isQ6 h) (.cons (isQ7 h) (.nil)))))) (by kernel_rfl) runQ8
theorem isQ9 : PureC Tryz.prog (Go.Ax.frozen W) (eQ9).1 (eQ9).2.1 (eQ9).2.2 := pure_of_run (pok h (T := [eQ8]) (.cons (isQ8 h) (.nil))) (by kernel_rfl) runQ9
theorem isQ10 : PureC Tryz.prog (Go.Ax.frozen W) (eQ10).1 (eQ10).2.1 (eQ10).2.2 := pure_of_run (pok h (T := [eQ2]) (.cons (isQ2 h) (.nil))) (by kernel_rfl) runQ10
theorem isQ11 : PureC Tryz.prog (Go.Ax.frozen W) (eQ11).1 (eQ11).2.1 (eQ11).2.2 := pure_of_run (pok h (T := [eQ10]) (.cons (isQ10 h) (.nil))) (by kernel_rfl) runQ11
theorem isQ12 : PureC Tryz.prog (Go.Ax.frozen W) (eQ12).1 (eQ12).2.1 (eQ12).2.2 := pure_of_run (pok h (T := [eQ1, eQ9, eQ11]) (.cons (isQ1 h) (.cons (isQ9 h) (.cons (isQ11 h) (.nil))))) (by kernel_rfl) runQ12
theorem tabsQ : AllPure Tryz.prog (Go.Ax.frozen W) [eQ12] := .cons (isQ12 h) (.nil)
end
abbrev tabLQ : Tab := [eQ12]
end Go.Proofs.YtflfodegogjefaaGreatDoor
namespace Go.Proofs.YtflfodegogjefaaGreatDoor
open Go.ChangeShapes Go.WideShapes Go.ChangeAt Go.WideMaps Go.WideElems Go.RowKit Go.Ax
theorem four {H : Type} {enc : TypeId × Value → H} {P : Program} {w : World} {base : Nat} {spare : Nat → Bool} {held : Bool} {t0 t1 t2 t3 : TypeId} {args : Array Value} {ds : List (DataW H)} {ps : List MemPlace} (h : DataW.TrodAll enc P w base spare held [t0, t1, t2, t3] args.toList ds ps) :
  ∃ v0 v1 v2 v3 d0 d1 d2 d3 p0 p1 p2 p3, args = #[v0, v1, v2, v3] ∧ ds = [d0, d1, d2, d3] ∧ ps = p0 ++ p1 ++ p2 ++ p3 ∧ DataW.Trod enc P w base spare held t0 v0 d0 p0 ∧ DataW.Trod enc P w base spare held t1 v1 d1 p1 ∧ DataW.Trod enc P w base spare held t2 v2 d2 p2 ∧ DataW.Trod enc P w base spare held t3 v3 d3 p3 := by
 obtain ⟨v0, vs, d0, ds', p0, q, hargs, rfl, rfl, h0, hrest⟩ := trodAll_cons h
 obtain ⟨v1, vs', d1, ds'', p1, q', rfl, rfl, rfl, h1, hrest'⟩ := trodAll_cons hrest
 obtain ⟨v2, vs'', d2, ds3, p2, q2, rfl, rfl, rfl, h2, hrest2⟩ := trodAll_cons hrest'
 obtain ⟨v3, vs3, d3, ds4, p3, q3, rfl, rfl, rfl, h3, hrest3⟩ := trodAll_cons hrest2
 obtain ⟨rfl, rfl, rfl⟩ := trodAll_nil hrest3
 exact ⟨v0, v1, v2, v3, d0, d1, d2, d3, p0, p1, p2, p3, by cases args; simp_all, rfl, by simp, h0, h1, h2, h3⟩
theorem runA : pureOk 100 (.bool true) (call Tryz.prog (cx [eQ12]) 20000 14 [] h0) = true := by kernel_rfl
theorem aliveR {W : World} (h : laidMetH Tryz.prog laidR W) : PureC Tryz.prog (Go.Ax.frozen W) N_fescuelaw27_alive [] (.bool true) := pure_of_run (pok h (tabsQ h)) rfl runA
set_option maxRecDepth 100000 in
set_option maxHeartbeats 4000000 in
theorem tidySwaps_lifted (os : Os) (started : os.Started) (H : Type) (enc : TypeId × Value → H) :
  ReturnsInHanded {} Tryz.checked os 4 .any (fun w args => (Rows.tidySwapsSpec.pre enc Tryz.prog Tryz.f4 [] false w args ∧ laidMetH Tryz.prog laidR w) ∧ sizedMet enc Tryz.prog Tryz.f4 (OpenSpec.ofChange Rows.tidySwapsSpec) false w args)
   (Rows.tidySwapsSpec.post enc Tryz.prog Tryz.f4 false true false false) := by
 refine returnsInHanded_of_change_and (C := Tryz.checked) (X := fun w _ => laidMetH Tryz.prog laidR w) (fun _ _ _ hh h => h.of_heap hh) own started (by as_aux_lemma => kernel_rfl) Tryz.func4
  (ChangeSpec.witness_shaped (enc := enc) (C := Tryz.checked) (os := os) (X := fun w _ => laidMetH Tryz.prog laidR w) false (World.doorLaid Tryz.prog 500 os) #[zeroP, .int .i64 0, .int .i64 0, .int .i64 0] 8 rfl (World.shaped_of_RefB (by as_aux_lemma => kernel_rfl) (by as_aux_lemma => kernel_rfl)) (by as_aux_lemma => kernel_rfl) (by as_aux_lemma => kernel_rfl) (by as_aux_lemma => kernel_rfl) (door_met os _)) ?_
 intro W base args ds gs before hval0 hW _ hsz0 hL _
 have hW' := hW
 have hlt := fun p hp => hW'.lt p hp
 obtain ⟨p, q, hA0, hV, rfl, hfz, hnd⟩ := hW
 have hA : DataW.TrodAll enc Tryz.prog W 0 (fun _ => true) true Tryz.f4.params.toList args.toList ds p := hA0
 have hA1 := hA
 rw [Tryz.params4] at hA
 obtain ⟨rfl, rfl⟩ := trodVars_none hV
 have hsz : (DataW.weightsEach Tryz.prog (Tryz.f4.params.toList ++ []) (ds ++ [])).all (· ≤ reachBytes) = true := hsz0
 rw [Tryz.params4, List.append_nil, List.append_nil] at hsz
 obtain ⟨u, v0, w0, x0, d, e, f, g, _, _, _, _, rfl, rfl, _, h1, h2, h3, h4⟩ := four hA
 obtain ⟨pr, gp, r1⟩ := prog_rel (m := ⟨fun _ => none, fun _ => none⟩) h1 (okW_of hsz (i := 0) rfl rfl)
 have hval : ∀ (j : Nat) t v, Tryz.f4.params[j]? = some t → #[u, v0, w0, x0][j]? = some v → Value.okWide Tryz.prog W .any base t v := hval0
 rw [Tryz.params4] at hval
 obtain ⟨k, rfl⟩ := okWide_int Tryz.underlying3 (hval 1 3 v0 rfl rfl)
 obtain ⟨k2, rfl⟩ := okWide_int Tryz.underlying3 (hval 2 3 w0 rfl rfl)
 obtain ⟨k3, rfl⟩ := okWide_int Tryz.underlying3 (hval 3 3 x0 rfl rfl)
 refine (law_pure (.cons r1 (.cons (.int _ _) (.cons (.int _ _) (.cons (.int _ _) .nil)))) (TidySwaps_pure (envR hL) (aliveR hL) pr k k2 k3 (fun f hf b hb => (gp f hf b hb).1) gp.ops)).mono fun e' W' ⟨he, hb⟩ => ?_
 subst he
 refine ⟨_, rfl, _, _, _, [], p, [], hW', ?_, ?_, ?_, hb.frame _, fun h => by cases h⟩
 ·exact trodAll_mk1 (shut_bool Tryz.underlying4 true)
 ·exact trodAll_stays laidOut mapsR slicesR hb (fun t ht => by
   rw [Tryz.params4] at ht
   have : t = 25 ∨ t = 3 := by simpa using ht
   have h26 := size26
   rcases this with rfl | rfl
   ·exact Nat.lt_trans (by decide) h26
   ·exact Nat.lt_trans (by decide) h26) hA1 (fun x hx => hlt x (by simpa using hx))
 ·rfl
theorem and2 {a b : Bool} (h : a = true) (k : b = true) : (a && b) = true := by rw [h, k]; rfl
set_option maxHeartbeats 4000000 in
theorem tidySwaps_holds : Rows.TidySwapsSaid :=
  OpenClaim.holds_of_wide 4 Tryz.f4 rfl rfl rfl rfl rfl rfl rfl ⟨rfl, rfl, rfl, rfl, rfl⟩ rfl rfl rfl rfl rfl (by kernel_rfl) Tryz.func4 (by
      unfold joinedFacts
      repeat' (with_reducible refine and2 ?_ ?_)
      all_goals (as_aux_lemma => kernel_rfl))
    (of_decide_eq_true (by kernel_rfl)) (by unfold Func.isWrapper; first | (rw [if_pos (by decide +kernel)]; kernel_rfl) | (rw [if_neg (by decide +kernel)]; exact ⟨rfl, rfl⟩))
    (fun os started H enc _ => tidySwaps_lifted os started H enc)
set_option maxHeartbeats 4000000 in
theorem tidySwaps_card : Rows.TidySwapsCardSaid :=
  Claim7.holds_tied_plain_at .later [] [.data] true (true, "24b7330209ef5bdf40221580dc95b7274663cbcc0d8003592c214c84267ed3cd") true
    tidySwaps_holds (fun _ h => by cases h) (by as_aux_lemma => kernel_rfl) (fun _ h => by cases h) tidySwaps_row_tie rfl ⟨rfl, rfl⟩ (by as_aux_lemma => kernel_rfl) rfl
    (fun f fn hf hfn => by
      obtain rfl : f = 4 := Option.some.inj ((show Tryz.prog.funcNamed "fescue/fescuelaw27.TidySwaps" = some 4 by kernel_rfl).symm.trans hf) |>.symm
      obtain rfl : fn = Tryz.f4 := (Option.some.inj (Tryz.func4.symm.trans hfn)).symm
      exact ⟨by as_aux_lemma => kernel_rfl, fun j t ht => by
        rw [Tryz.params4] at ht
        have hm : t ∈ [25, 3, 3, 3] := by simpa using Array.mem_of_getElem? ht
        have hall : ([25, 3, 3, 3].all fun u => !Tryz.prog.wantsStandIn u) = true := by kernel_rfl
        exact (show Tryz.prog.wantsStandIn t = false by simpa using List.all_eq_true.1 hall t hm)⟩)
    (by as_aux_lemma => kernel_rfl)
end Go.Proofs.YtflfodegogjefaaGreatDoor
