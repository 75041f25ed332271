/- run.Keeps, walked: what it answers of two machines, in whatever memory. -/
import Derived.Test.YtdlbpincdnipdaaGreatDoorNamesA
import Derived.Test.YtdlbpincdnipdaaGreatDoorMd
namespace Go.Proofs.YtdlbpincdnipdaaGreatDoor
open Go.ChangeShapes Go.WideShapes Go.ChangeAt Go.WideMaps Go.WideElems Go.RowKit Go.Ax
def bodyOf (f : Func) : Code := match f.body with | some c => c | none => .skip
noncomputable abbrev C0 (gl : Nat → AV) (K : Knob) : Ctx := Ctx.of Tryz.prog gl K
variable {gl : Nat → AV} {K : Knob}
theorem f34_4 (r o : Nat) : fieldAt (C0 gl K) 34 (.ptr r o) 4 = some (.ptr r (o + 4)) := by kernel_rfl
theorem f34_6 (r o : Nat) : fieldAt (C0 gl K) 34 (.ptr r o) 6 = some (.ptr r (o + 6)) := by kernel_rfl
theorem f34_7 (r o : Nat) : fieldAt (C0 gl K) 34 (.ptr r o) 7 = some (.ptr r (o + 7)) := by kernel_rfl
theorem f34_9 (r o : Nat) : fieldAt (C0 gl K) 34 (.ptr r o) 9 = some (.ptr r (o + 9)) := by kernel_rfl
theorem f53_0 (r o : Nat) : fieldAt (C0 gl K) 53 (.ptr r o) 0 = some (.ptr r (o + 0)) := by kernel_rfl
theorem f53_1 (r o : Nat) : fieldAt (C0 gl K) 53 (.ptr r o) 1 = some (.ptr r (o + 1)) := by kernel_rfl
theorem g53_0 (xs : List (List AV)) (i o : Nat) : fieldAt (C0 gl K) 53 (.iptr xs i o) 0 = some (.iptr xs i (o + 0)) := by kernel_rfl
theorem g53_1 (xs : List (List AV)) (i o : Nat) : fieldAt (C0 gl K) 53 (.iptr xs i o) 1 = some (.iptr xs i (o + 1)) := by kernel_rfl
theorem sc31 : isSc (C0 gl K) 31 = true := by kernel_rfl
theorem sc5 : isSc (C0 gl K) 5 = true := by kernel_rfl
theorem sc2 : isSc (C0 gl K) 2 = true := by kernel_rfl
theorem sc3 : isSc (C0 gl K) 3 = true := by kernel_rfl
theorem ag53 : isAg (C0 gl K) 53 2 = true := by kernel_rfl
theorem sl31 : isSl (C0 gl K) 31 2 = true := by kernel_rfl
theorem al53 (h : Hp) : alloc (C0 gl K) 53 h = some (.ptr h.nx 0, h.new (.cells 53 [.int .u8 0, .int .i64 0])) := by kernel_rfl
theorem cv52 (k : Nat) : convA (C0 gl K) 5 2 (.int .u8 (.ofNat k)) = some (.int .i64 (wrapF .i64 (.ofNat k))) := by kernel_rfl
theorem bd108 (a b : Int) : build (C0 gl K) 108 [(0, .int .i64 a), (1, .int .i64 b)] = some (.agg [.int .i64 a, .int .i64 b]) := by kernel_rfl
theorem sz53 : szOf (C0 gl K) 53 2 = true := by kernel_rfl
theorem ar108 : isArr2 (C0 gl K) 108 2 = true := by kernel_rfl
theorem bne108 (hq : K.eqT 108 = true) (a b c d : Int) : binOpA (C0 gl K) .neq 108 (.agg [.int .i64 a, .int .i64 b]) (.agg [.int .i64 c, .int .i64 d]) = some (.bool (!(eqI a c && eqI b d))) := by
  have h : eqA (C0 gl K) 100 108 (.agg [.int .i64 a, .int .i64 b]) (.agg [.int .i64 c, .int .i64 d]) = some (eqI a c && eqI b d) := eqA_arr2 ar108 rfl 98
  have hq' : (C0 gl K).eqT 108 = true := hq
  rw [bin_neq_agg, hq', h]; rfl
theorem fn22 : (C0 gl K).fn.get 22 = some Tryz.f22 := by kernel_rfl

def ev : Option (List (Nat × Int)) → AV
  | none => .nilsl
  | some l => .isl (l.map fun p => [.int .u8 (.ofNat p.1), .int .i64 p.2])
def evl (E : Option (List (Nat × Int))) : List (Nat × Int) := E.getD []
theorem len_ev (E : Option (List (Nat × Int))) (h : Hp) : lenOfA (C0 gl K) 31 (ev E) h = some (.int .i64 (.ofNat (evl E).length)) := by
  refine len_sl sl31 ?_ ?_
  · cases E <;> simp [ev, evl, lenA]
  · cases E <;> simp [ev]
def mach (m0 m1 m2 m3 : AV) (E : Option (List (Nat × Int))) (m5 : AV) (hp : Int) (st : Nat) (m8 : AV) (ex : Int) : List AV := [m0, m1, m2, m3, ev E, m5, .int .i64 hp, .int .u8 (.ofNat st), m8, .int .i64 ex]

variable {a0 a1 a2 a3 a5 a8 b0 b1 b2 b3 b5 b8 : AV} {ea eb : Option (List (Nat × Int))} {ha hb xa xb : Int} {sa sb : Nat}
structure Inv (A B : List AV) (r2 r3 : Nat) (hh h : Hp) : Prop where
  a : h.get r2 = some (.cells 34 A)
  b : h.get r3 = some (.cells 34 B)
  la : r2 < h.nx
  lb : r3 < h.nx
  grow : Grow hh h
  lo : h.lo ≤ h.nx
theorem Inv.new {A B : List AV} {r2 r3 : Nat} {hh h : Hp} (I : Inv A B r2 r3 hh h) (o : AObj) : Inv A B r2 r3 hh (h.new o) :=
  ⟨by rw [Hp.get_new, if_neg (Nat.ne_of_gt I.la)]; exact I.a, by rw [Hp.get_new, if_neg (Nat.ne_of_gt I.lb)]; exact I.b, Nat.lt_succ_of_lt I.la, Nat.lt_succ_of_lt I.lb, I.grow.trans (Grow.new _ _), Nat.le_succ_of_le I.lo⟩
theorem ltI_true {a b : Nat} (h : a < b) : ltI (.ofNat a) (.ofNat b) = true := Nat.ble_eq_true_of_le h
theorem ltI_false {a b : Nat} (h : b ≤ a) : ltI (.ofNat a) (.ofNat b) = false := by
  show Nat.blt a b = false
  cases hb : Nat.blt a b with
  | false => rfl
  | true => have := Nat.le_of_ble_eq_true hb; omega
/-- What Keeps answers. -/
def preB (a b : List (Nat × Int)) : Bool := Nat.ble a.length b.length && decide (∀ i, i < a.length → a[i]? = b[i]?)
def keepsB (a b : List (Nat × Int)) (sa sb : Nat) (ha hb xa xb : Int) : Bool := preB a b && (!Nat.beq sa 2 || (Nat.beq sb 2 && (Nat.beq a.length b.length && (eqI xa xb && !ltI ha hb))))
theorem bneq {s : Nat} {b : Bool} (h : Nat.beq s 2 = b) : binOpA (C0 gl K) .neq 5 (.int .u8 (.ofNat s)) (.int .u8 2) = some (.bool (!b)) := by subst h; rfl
theorem beql {s : Nat} {b : Bool} (h : Nat.beq s 2 = b) : binOpA (C0 gl K) .eql 5 (.int .u8 (.ofNat s)) (.int .u8 2) = some (.bool b) := by subst h; rfl
theorem blen {x y : Nat} {b : Bool} (h : Nat.beq x y = b) : binOpA (C0 gl K) .eql 3 (.int .i64 (.ofNat x)) (.int .i64 (.ofNat y)) = some (.bool b) := by subst h; rfl
theorem bext {x y : Int} {b : Bool} (h : eqI x y = b) : binOpA (C0 gl K) .eql 2 (.int .i64 x) (.int .i64 y) = some (.bool b) := by subst h; rfl
theorem ev_at {E : Option (List (Nat × Int))} {i : Nat} {p : Nat × Int} (hp : (evl E)[i]? = some p) : ∃ l : List (Nat × Int), ev E = .isl (l.map fun p => [.int .u8 (.ofNat p.1), .int .i64 p.2]) ∧ l[i]? = some p := by
  cases E with
  | none => simp [evl] at hp
  | some l => exact ⟨l, rfl, hp⟩
def okEv (E : Option (List (Nat × Int))) : Prop := ∀ p ∈ evl E, p.1 < 256
theorem eqI_refl (a : Int) : eqI a a = true := by cases a <;> exact Nat.beq_refl _
theorem wrap_succ {i : Nat} (h : i < 1000000) : wrapF .i64 (addI (.ofNat i) 1) = .ofNat (i + 1) := by
  show (bif Nat.ble (i + 1) 9223372036854775807 then _ else _) = _
  rw [Nat.ble_eq_true_of_le (by omega)]; rfl
theorem wrap_u8 {k : Nat} (h : k < 256) : wrapF .i64 (.ofNat k) = .ofNat k := by
  show (bif Nat.ble k 9223372036854775807 then _ else _) = _
  rw [Nat.ble_eq_true_of_le (by omega)]; rfl
attribute [local irreducible] fieldAt loadAt lenOfA binOpA opA callF
set_option maxHeartbeats 8000000 in
theorem keeps_wp (hq : K.eqT 108 = true) (hl : (evl ea).length ≤ 200) (oa : okEv ea) (ob : okEv eb) (h : Hp) (s : St) (hlo : h.lo ≤ h.nx) (hs : At s 75 [(0, .agg (mach a0 a1 a2 a3 ea a5 ha sa a8 xa)), (1, .agg (mach b0 b1 b2 b3 eb b5 hb sb b8 xb))] h) :
    Wp Tryz.prog (C0 gl K) (bodyOf Tryz.f22) s fun e s' => (e = .normal ∨ e = .ret) ∧ ∃ g, Grow h g ∧ At s' 75 [(4, .bool (keepsB (evl ea) (evl eb) sa sb ha hb xa xb))] g := by
  refine Wp.seq (Wp.region hs (OpsTo.step rfl rfl rfl (oBox rfl rfl) <| OpsTo.step rfl rfl rfl (oBox rfl rfl) <| OpsTo.step rfl rfl rfl (oAssign rfl) (OpsTo.nil fun s hs => ?_)))
  have I : Inv (mach a0 a1 a2 a3 ea a5 ha sa a8 xa) (mach b0 b1 b2 b3 eb b5 hb sb b8 xb) h.nx (h.nx + 1) h ((h.new (.cells 34 (mach a0 a1 a2 a3 ea a5 ha sa a8 xa))).new (.cells 34 (mach b0 b1 b2 b3 eb b5 hb sb b8 xb))) := by
    refine ⟨?_, ?_, ?_, ?_, (Grow.new _ _).trans (Grow.new _ _), ?_⟩
    · rw [Hp.get_new, if_neg (by show h.nx + 1 ≠ h.nx; omega), Hp.get_new, if_pos rfl]
    · rw [Hp.get_new]; exact if_pos rfl
    · show h.nx < h.nx + 1 + 1; omega
    · show h.nx + 1 < h.nx + 1 + 1; omega
    · show h.lo ≤ h.nx + 1 + 1; omega
  have hs := hs.less (l' := [(3, .ptr (h.nx + 1) 0), (2, .ptr h.nx 0)]) (lessB_cons rfl <| lessB_cons rfl lessB_nil)
  generalize (h.new (.cells 34 (mach a0 a1 a2 a3 ea a5 ha sa a8 xa))).new (.cells 34 (mach b0 b1 b2 b3 eb b5 hb sb b8 xb)) = g at hs I
  generalize h.nx + 1 = r3 at hs I
  generalize h.nx = r2 at hs I
  repeat refine Wp.seq ?_
  refine (Wp.region hs (OpsTo.step rfl rfl rfl (oField rfl (f34_4 _ _)) <| OpsTo.step rfl rfl rfl (oLoad rfl ((load_sc sc31 I.b).trans rfl)) <| OpsTo.step rfl rfl rfl (oLen rfl (len_ev _ _)) <| OpsTo.step rfl rfl rfl (oField rfl (f34_4 _ _)) <| OpsTo.step rfl rfl rfl (oLoad rfl ((load_sc sc31 I.a).trans rfl)) <| OpsTo.step rfl rfl rfl (oLen rfl (len_ev _ _)) <| OpsTo.step rfl rfl rfl (oBin rfl rfl rfl bLss) (OpsTo.nil fun s hs => ?_)))
  refine Wp.cond hs rfl ?_
  by_cases hlt : (evl eb).length < (evl ea).length
  · rw [ltI_true hlt]
    refine Wp.seq (Wp.region hs (OpsTo.step rfl rfl rfl (oAssign rfl) (OpsTo.nil fun s hs => Wp.ret ⟨.inr rfl, g, I.grow, hs.less (lessB_cons ?_ lessB_nil)⟩)))
    have : keepsB (evl ea) (evl eb) sa sb ha hb xa xb = false := by
      unfold keepsB preB
      cases hb : Nat.ble (evl ea).length (evl eb).length with
      | false => rfl
      | true => have := Nat.le_of_ble_eq_true hb; omega
    rw [this]; rfl
  rw [ltI_false (by omega)]
  refine Wp.skip ?_
  repeat refine Wp.seq ?_
  refine Wp.region hs (OpsTo.step rfl rfl rfl (oField rfl (f34_4 _ _)) <| OpsTo.step rfl rfl rfl (oLoad rfl ((load_sc sc31 I.a).trans rfl)) <| OpsTo.step rfl rfl rfl (oLen rfl (len_ev _ _)) <| OpsTo.step rfl rfl rfl (oMove rfl) (OpsTo.nil fun s hs => ?_))
  have hs := hs.less (l' := [(15, ev ea), (16, .int .i64 (.ofNat (evl ea).length)), (17, .int .i64 (.ofNat 0)), (3, .ptr r3 0), (2, .ptr r2 0)]) (lessB_cons rfl <| lessB_cons rfl <| lessB_cons rfl <| lessB_cons rfl <| lessB_cons rfl lessB_nil)
  -- the loop
  refine Wp.mono (Q := fun e s' => (e = .ret ∧ preB (evl ea) (evl eb) = false ∧ ∃ g, Grow h g ∧ At s' 75 [(4, .bool false)] g) ∨ (e = .normal ∧ preB (evl ea) (evl eb) = true ∧ ∃ g, Inv (mach a0 a1 a2 a3 ea a5 ha sa a8 xa) (mach b0 b1 b2 b3 eb b5 hb sb b8 xb) r2 r3 h g ∧ At s' 75 [(3, .ptr r3 0), (2, .ptr r2 0)] g)) (Wp.block ?_) ?_
  · clear hlo
    obtain ⟨i, hi⟩ : ∃ i, i = 0 := ⟨0, rfl⟩
    have hs : At s 75 [(15, ev ea), (16, .int .i64 (.ofNat (evl ea).length)), (17, .int .i64 (.ofNat i)), (3, .ptr r3 0), (2, .ptr r2 0)] g := by rw [hi]; exact hs
    have hle : i ≤ (evl ea).length := by omega
    have hpre : ∀ j, j < i → (evl ea)[j]? = (evl eb)[j]? := fun j hj => by omega
    clear hi
    repeat (rename_i z; clear z)
    obtain ⟨k, hk⟩ : ∃ k, k = (evl ea).length - i := ⟨_, rfl⟩
    induction k generalizing i s g with
    | zero =>
      have he : i = (evl ea).length := by omega
      refine Wp.loop ?_
      repeat refine Wp.seq ?_
      refine Wp.region hs (OpsTo.step rfl rfl rfl (oBin rfl rfl rfl bLss) (OpsTo.nil fun s hs => ?_))
      refine Wp.seq (Wp.cond hs rfl ?_)
      rw [ltI_false (by omega)]
      refine Wp.exit (.inr ⟨rfl, ?_, g, I, hs.less (lessB_cons rfl <| lessB_cons rfl lessB_nil)⟩)
      unfold preB
      rw [Nat.ble_eq_true_of_le (by omega)]
      exact decide_eq_true fun j hj => hpre j (by omega)
    | succ k ih =>
      have hlt' : i < (evl ea).length := by omega
      have hpa : (evl ea)[i]? = some (evl ea)[i] := List.getElem?_eq_getElem hlt'
      have hpb : (evl eb)[i]? = some ((evl eb)[i]'(by omega)) := List.getElem?_eq_getElem (by omega)
      have ha8 := oa _ (List.getElem_mem hlt')
      have hb8 := ob _ (List.getElem_mem (show i < (evl eb).length by omega))
      generalize (evl ea)[i] = pa at hpa ha8
      generalize (evl eb)[i]'(by omega) = pb at hpb hb8
      obtain ⟨la, ea1, ea2⟩ := ev_at hpa
      obtain ⟨lb, eb1, eb2⟩ := ev_at hpb
      have xa1 : (la.map fun p => [AV.int .u8 (.ofNat p.1), .int .i64 p.2])[i]? = some [.int .u8 (.ofNat pa.1), .int .i64 pa.2] := by rw [List.getElem?_map, ea2]; rfl
      have xb1 : (lb.map fun p => [AV.int .u8 (.ofNat p.1), .int .i64 p.2])[i]? = some [.int .u8 (.ofNat pb.1), .int .i64 pb.2] := by rw [List.getElem?_map, eb2]; rfl
      refine Wp.loop ?_
      repeat refine Wp.seq ?_
      refine Wp.region hs (OpsTo.step rfl rfl rfl (oBin rfl rfl rfl bLss) (OpsTo.nil fun s hs => ?_))
      refine Wp.seq (Wp.cond hs rfl ?_)
      rw [ltI_true hlt']
      refine Wp.skip ?_
      repeat refine Wp.seq ?_
      refine Wp.block ?_
      repeat refine Wp.seq ?_
      have hst : storeAt (C0 gl K) 53 (.ptr g.nx 0) (.agg [.int .u8 (.ofNat pa.1), .int .i64 pa.2]) (g.new (.cells 53 [.int .u8 0, .int .i64 0])) = some ((g.new (.cells 53 [.int .u8 0, .int .i64 0])).put g.nx (.cells 53 [.int .u8 (.ofNat pa.1), .int .i64 pa.2])) := by
        have h1 : (g.new (.cells 53 [.int .u8 0, .int .i64 0])).get g.nx = some (.cells 53 [.int .u8 0, .int .i64 0]) := by rw [Hp.get_new]; exact if_pos rfl
        exact store_at (vs := [.int .u8 (.ofNat pa.1), .int .i64 pa.2]) sz53 rfl h1 rfl (Nat.le_refl 2) rfl
      refine Wp.region hs (OpsTo.step rfl rfl rfl (oMove rfl) <| OpsTo.step rfl rfl rfl (oIndex rfl rfl (v := .iptr (la.map fun p => [AV.int .u8 (.ofNat p.1), .int .i64 p.2]) i 0) (by rw [ea1]; exact index_isl sl31 xa1 rfl)) <|
        OpsTo.step rfl rfl rfl (oLoad rfl (v := .agg [.int .u8 (.ofNat pa.1), .int .i64 pa.2]) (by rw [load_agi ag53, xa1]; rfl)) <| OpsTo.step rfl rfl rfl (oAlloc (al53 _)) <| OpsTo.step rfl rfl rfl (oAssign rfl) <| OpsTo.step0 rfl rfl (oStore rfl rfl hst) (OpsTo.nil fun s hs => ?_))
      have I2 : Inv (mach a0 a1 a2 a3 ea a5 ha sa a8 xa) (mach b0 b1 b2 b3 eb b5 hb sb b8 xb) r2 r3 h ((g.new (.cells 53 [.int .u8 0, .int .i64 0])).put g.nx (.cells 53 [.int .u8 (.ofNat pa.1), .int .i64 pa.2])) := by
        have J := I.new (.cells 53 [.int .u8 0, .int .i64 0])
        refine ⟨by rw [Hp.get_put, if_neg (Nat.ne_of_gt I.la)]; exact J.a, by rw [Hp.get_put, if_neg (Nat.ne_of_gt I.lb)]; exact J.b, J.la, J.lb, J.grow.put I.grow.nx _, ?_⟩
        show (bif Nat.ble (g.new _).lo g.nx then (g.new _).lo else g.nx) ≤ g.nx + 1
        have := J.lo
        cases Nat.ble (g.new (.cells 53 [.int .u8 0, .int .i64 0])).lo g.nx with
        | true => exact this
        | false => simp
      have h6 : ((g.new (.cells 53 [.int .u8 0, .int .i64 0])).put g.nx (.cells 53 [.int .u8 (.ofNat pa.1), .int .i64 pa.2])).get g.nx = some (.cells 53 [.int .u8 (.ofNat pa.1), .int .i64 pa.2]) := by rw [Hp.get_put, if_pos rfl]
      have hs := hs.less (l' := [(6, .ptr g.nx 0), (5, .int .i64 (.ofNat i)), (15, ev ea), (16, .int .i64 (.ofNat (evl ea).length)), (17, .int .i64 (.ofNat i)), (3, .ptr r3 0), (2, .ptr r2 0)]) (lessB_cons rfl <| lessB_cons rfl <| lessB_cons rfl <| lessB_cons rfl <| lessB_cons rfl <| lessB_cons rfl <| lessB_cons rfl lessB_nil)
      generalize (g.new (.cells 53 [.int .u8 0, .int .i64 0])).put g.nx (.cells 53 [.int .u8 (.ofNat pa.1), .int .i64 pa.2]) = g2 at hs I2 h6
      generalize g.nx = r6 at hs h6
      repeat refine Wp.seq ?_
      refine Wp.draw hs (by kernel_rfl) (by kernel_rfl) I2.lo (OpsTo.step rfl rfl rfl (oField rfl (f53_0 _ _)) <| OpsTo.step rfl rfl rfl (oLoad rfl ((load_sc sc5 h6).trans rfl)) <| OpsTo.step rfl rfl rfl (oConv rfl ((cv52 _).trans (by rw [wrap_u8 ha8]))) <|
        OpsTo.step rfl rfl rfl (oField rfl (f53_1 _ _)) <| OpsTo.step rfl rfl rfl (oLoad rfl ((load_sc sc2 h6).trans rfl)) <| OpsTo.step rfl rfl rfl (oBuild2 rfl rfl (bd108 _ _)) <|
        OpsTo.step rfl rfl rfl (oField rfl (f34_4 _ _)) <| OpsTo.step rfl rfl rfl (oLoad rfl ((load_sc sc31 I2.b).trans rfl)) <| OpsTo.step rfl rfl rfl (oMove rfl) <|
        OpsTo.step rfl rfl rfl (oIndex rfl rfl (v := .iptr (lb.map fun p => [AV.int .u8 (.ofNat p.1), .int .i64 p.2]) i 0) (by rw [eb1]; exact index_isl sl31 xb1 rfl)) <|
        OpsTo.step rfl rfl rfl (oField rfl (g53_0 _ _ _)) <| OpsTo.step rfl rfl rfl (oLoad rfl (v := .int .u8 (.ofNat pb.1)) (by rw [load_sci sc5, xb1]; rfl)) <| OpsTo.step rfl rfl rfl (oConv rfl ((cv52 _).trans (by rw [wrap_u8 hb8]))) <|
        OpsTo.step rfl rfl rfl (oField rfl (f34_4 _ _)) <| OpsTo.step rfl rfl rfl (oLoad rfl ((load_sc sc31 I2.b).trans rfl)) <| OpsTo.step rfl rfl rfl (oMove rfl) <|
        OpsTo.step rfl rfl rfl (oIndex rfl rfl (v := .iptr (lb.map fun p => [AV.int .u8 (.ofNat p.1), .int .i64 p.2]) i 0) (by rw [eb1]; exact index_isl sl31 xb1 rfl)) <|
        OpsTo.step rfl rfl rfl (oField rfl (g53_1 _ _ _)) <| OpsTo.step rfl rfl rfl (oLoad rfl (v := .int .i64 pb.2) (by rw [load_sci sc2, xb1]; rfl)) <| OpsTo.step rfl rfl rfl (oBuild2 rfl rfl (bd108 _ _)) <|
        OpsTo.step rfl rfl rfl (oBin rfl rfl rfl (bne108 hq _ _ _ _)) (OpsTo.nil fun s hs => ?_))
      refine Wp.cond hs rfl ?_
      cases hc : (eqI (Int.ofNat pa.1) (Int.ofNat pb.1) && eqI pa.2 pb.2) with
      | false =>
        refine Wp.seq (Wp.region hs (OpsTo.step rfl rfl rfl (oAssign rfl) (OpsTo.nil fun s hs => Wp.ret (.inl ⟨rfl, ?_, g2, I2.grow, hs.less (lessB_cons rfl lessB_nil)⟩))))
        unfold preB
        rw [decide_eq_false (fun hall => ?_), Bool.and_false]
        have := hall i hlt'
        rw [hpa, hpb] at this
        cases this
        rw [eqI_refl, eqI_refl] at hc
        cases hc
      | true =>
        refine Wp.skip ?_
        refine Wp.region hs (OpsTo.step rfl rfl rfl (oBin rfl rfl rfl bAdd) <| OpsTo.step rfl rfl rfl (oMove rfl) (OpsTo.nil fun s hs => ?_))
        obtain ⟨c1, c2⟩ := and_bool hc
        have hpq : pa = pb := by
          have e1 := eqI_eq' c1
          have e2 := eqI_eq' c2
          cases pa; cases pb
          simp only [Int.ofNat.injEq] at e1 e2
          subst e1 e2; rfl
        refine ih g2 I2 s (i + 1) (hs.less (l' := [(15, ev ea), (16, .int .i64 (.ofNat (evl ea).length)), (17, .int .i64 (.ofNat (i + 1))), (3, .ptr r3 0), (2, .ptr r2 0)]) (lessB_cons rfl <| lessB_cons rfl <| lessB_cons ?_ <| lessB_cons rfl <| lessB_cons rfl lessB_nil)) (by omega) (fun j hj => ?_) (by omega)
        · rw [← wrap_succ (show i < 1000000 by omega)]; rfl
        · by_cases hji : j = i
          · rw [hji, hpa, hpb, hpq]
          · exact hpre j (by omega)
  · intro e s1 hc
    rcases hc with ⟨rfl, h1, g1, G, hs⟩ | ⟨rfl, h1, g1, I, hs⟩
    · refine ⟨.inr rfl, g1, G, ?_⟩
      have : keepsB (evl ea) (evl eb) sa sb ha hb xa xb = false := by unfold keepsB; rw [h1]; rfl
      rw [this]; exact hs
    · repeat refine Wp.seq ?_
      cases c1 : Nat.beq sa 2 <;> cases c2 : Nat.beq sb 2 <;> cases c3 : Nat.beq (evl ea).length (evl eb).length <;> cases c4 : eqI xa xb
      all_goals
        refine Wp.region hs ?_
        repeat
            first
              | refine OpsTo.step rfl rfl rfl (oField rfl (f34_4 _ _)) ?_
              | refine OpsTo.step rfl rfl rfl (oField rfl (f34_6 _ _)) ?_
              | refine OpsTo.step rfl rfl rfl (oField rfl (f34_7 _ _)) ?_
              | refine OpsTo.step rfl rfl rfl (oField rfl (f34_9 _ _)) ?_
              | refine OpsTo.step rfl rfl rfl (oLoad rfl ((load_sc sc5 I.a).trans rfl)) ?_
              | refine OpsTo.step rfl rfl rfl (oBin rfl rfl rfl (bneq c1)) ?_
              | refine OpsTo.step rfl rfl rfl (oMove rfl) ?_
              | refine OpsTo.step rfl rfl rfl (oAssign rfl) ?_
              | refine OpsTo.step rfl rfl rfl (oPick rfl rfl) ?_
              | refine OpsTo.gskip rfl rfl rfl rfl rfl rfl ?_
              | refine OpsTo.gno rfl rfl rfl rfl rfl rfl ?_
              | refine OpsTo.gyes rfl rfl rfl rfl rfl rfl (oMove rfl) ?_
              | refine OpsTo.gyes rfl rfl rfl rfl rfl rfl (oPick rfl rfl) ?_
              | refine OpsTo.gyes rfl rfl rfl rfl rfl rfl (oField rfl (f34_4 _ _)) ?_
              | refine OpsTo.gyes rfl rfl rfl rfl rfl rfl (oField rfl (f34_6 _ _)) ?_
              | refine OpsTo.gyes rfl rfl rfl rfl rfl rfl (oField rfl (f34_7 _ _)) ?_
              | refine OpsTo.gyes rfl rfl rfl rfl rfl rfl (oField rfl (f34_9 _ _)) ?_
              | refine OpsTo.gyes rfl rfl rfl rfl rfl rfl (oLoad rfl ((load_sc sc5 I.b).trans rfl)) ?_
              | refine OpsTo.gyes rfl rfl rfl rfl rfl rfl (oLoad rfl ((load_sc sc31 I.a).trans rfl)) ?_
              | refine OpsTo.gyes rfl rfl rfl rfl rfl rfl (oLoad rfl ((load_sc sc31 I.b).trans rfl)) ?_
              | refine OpsTo.gyes rfl rfl rfl rfl rfl rfl (oLoad rfl ((load_sc sc2 I.a).trans rfl)) ?_
              | refine OpsTo.gyes rfl rfl rfl rfl rfl rfl (oLoad rfl ((load_sc sc2 I.b).trans rfl)) ?_
              | refine OpsTo.gyes rfl rfl rfl rfl rfl rfl (oLoad rfl ((load_sc sc3 I.a).trans rfl)) ?_
              | refine OpsTo.gyes rfl rfl rfl rfl rfl rfl (oLoad rfl ((load_sc sc3 I.b).trans rfl)) ?_
              | refine OpsTo.gyes rfl rfl rfl rfl rfl rfl (oLen rfl (len_ev _ _)) ?_
              | refine OpsTo.gyes rfl rfl rfl rfl rfl rfl (oBin rfl rfl rfl (beql c2)) ?_
              | refine OpsTo.gyes rfl rfl rfl rfl rfl rfl (oBin rfl rfl rfl (blen c3)) ?_
              | refine OpsTo.gyes rfl rfl rfl rfl rfl rfl (oBin rfl rfl rfl (bext c4)) ?_
              | refine OpsTo.gyes rfl rfl rfl rfl rfl rfl (oBin rfl rfl rfl bLeq) ?_
        refine OpsTo.nil fun s hs => ?_
        · refine Wp.ret ⟨.inr rfl, g1, I.grow, hs.less (lessB_cons (v := .bool (keepsB (evl ea) (evl eb) sa sb ha hb xa xb)) ?_ lessB_nil)⟩
          unfold keepsB
          rw [h1, c1, c2, c3, c4]
          rfl

end Go.Proofs.YtdlbpincdnipdaaGreatDoor
