import Derived.Test.YtflfodegogjefaaGreatDoorV02
import Derived.Test.YtflfodegogjefaaGreatDoorProg
set_option linter.unusedSimpArgs false
set_option linter.unusedVariables false
noncomputable section
namespace Go.Ax
def orcT (K : Knob) : List (FuncId × List AV × AV) → FuncId → List AV → Option AV
 | [], f, args => K.orc f args
 | (g, aas, v) :: r, f, args => open Classical in if f = g ∧ args = aas then some v else orcT K r f args
def Knob.tell (K : Knob) (T : List (FuncId × List AV × AV)) : Knob := { K with orc := orcT K T }
variable {P : Program} {F : Nat → Option Obj} {gl : Nat → AV} {K : Knob} {C : Ctx} {n : Nat} {rd : Option Nat} {l l' : Kn} {h h1 : Hp} {ds : List ADef} {s : St} {Q Q' : PQ} {all rest : List Oper} {T : List (FuncId × List AV × AV)}
theorem orcT_pure (hP : ∀ f args v, K.orc f args = some v → q0y P F f args v) : ∀ {T : List (FuncId × List AV × AV)}, (∀ e ∈ T, q0y P F e.1 e.2.1 e.2.2) → ∀ f args v, orcT K T f args = some v → q0y P F f args v
  | [], _, f, args, v, h => hP f args v h
  | (g, aas, u) :: r, hT, f, args, v, h => by
    unfold orcT at h
    split at h
    · rename_i e
      obtain ⟨rfl, rfl⟩ := e
      cases h
      exact hT _ List.mem_cons_self
    · exact orcT_pure hP (fun e he => hT e (List.mem_cons_of_mem _ he)) f args v h
theorem pok_tell (hP : POk P F gl K) (hT : ∀ e ∈ T, q0y P F e.1 e.2.1 e.2.2) : POk P F gl (K.tell T) :=
 ⟨⟨hP.eq.held, hP.eq.guard, hP.eq.names⟩, hP.glob, hP.names, hP.mixed, orcT_pure hP.orc hT, hP.ext, hP.prim⟩
def Hp.z (h : Hp) : Hp := { nx := h.nx, m := h.m, lo := 0 }
theorem q1F {r : Nat} : h.z.get r = h.get r := rfl
theorem nx_z : h.z.nx = h.nx := rfl
attribute [simp] q1F nx_z
theorem HRel.z {m : Loc} {w : World} (hr : HRel P F m h w) : HRel P F m h.z w := ⟨hr.obj, hr.inj, hr.out, hr.frz, hr.wf⟩
theorem TPost.z {m : Loc} {w : World} {x : Exit} {a : Act} {w' : World} (hp : TPost P F n rd m h.z w Q x a w') : TPost P F n rd m h w Q x a w' := by
 obtain ⟨e, s', l', h', ds', q, hs, hle, m', hx, hst, ha⟩ := hp
 exact ⟨e, s', l', h', ds', q, hs, ⟨hle.nx, Nat.le_trans hle.lo (Nat.zero_le _), fun r _ h2 => absurd (Nat.lt_of_lt_of_le h2 hle.lo) (Nat.not_lt_zero _), hle.wf⟩, m', hx,
  ⟨hst.le, hst.new, hst.rel, hst.same, hst.size, hst.old, hst.nx, hst.keep, hst.mnew, hst.fnew⟩, ha⟩
theorem TW.z {c : Code} (ht : TW P F c n rd l h.z ds Q) : TW P F c n rd l h ds Q := fun s hs m a w fe k hr ha hf hF =>
 wpIn_mono (ht { s with h := h.z } ⟨hs.n, rfl, hs.ds, hs.rd, hs.tm⟩ m a w fe k hr.z ⟨ha.tm, ha.ds⟩ hf hF) fun _ _ _ hp => hp.z
def callOf (o : Oper) : Option (Operand × List Operand) :=
 match o.op with
 | .call c => (match c.callee with | .value f => some (f, c.args.toList) | _ => none)
 | _ => none
def runQ (P : Program) (C : Ctx) (n : Nat) (all : List Oper) : List Oper → Kn → Hp → Option Kn
  | [], l, _ => some l
  | o :: r, l, h => match q5x all l o with
    | none => none
    | some false => (match o.dst with
      | some d => if d < n then runQ P C n all r ((d, .tup []) :: l) h else none
      | none => runQ P C n all r l h)
    | some true => match callOf o with
      | some (x, aas) => (match evK C l x, evsK C l aas with
        | some (.fn (.func g) first cap), some vs => (match C.ext g (first ++ vs ++ cap), C.fn.get g, C.orc g (first ++ vs ++ cap) with
          | none, some fn, some v => if fn.body.isSome = true then (match o.dst with
            | some d => if d < n then runQ P C n all r ((d, v) :: l) h else none
            | none => runQ P C n all r l h) else none
          | _, _, _ => none)
        | _, _ => none)
      | none => if q8N o = true then (if knowns l o.op.operands.toList = true then (match opA P C nix (knSt l h) o with
          | some (.val v _) => (match o.dst with
            | some d => if d < n then runQ P C n all r ((d, v) :: l) h else none
            | none => runQ P C n all r l h)
          | _ => none) else none) else none
theorem still_op {s : St} {o : Oper} {v : AV} (i : Nat) (ms : List Nat) (fps : List FP) (hf : ∀ f ∈ fps, f.wr = some [] ∧ f.nl = f.nh) (_hlo : s.h.lo = 0)
  (_ho : opA P C nix { s with h := { s.h with lo := s.h.nx } } o = some (.val v { s.h with lo := s.h.nx })) (hfp : fpOf C s o = none ∨ ∃ r, fpOf C s o = some (r, [])) :
  ∃ fps', q0T ms (fpAt C s o i { s.h with lo := s.h.nx }) fps = some fps' ∧ ∀ f ∈ fps', f.wr = some [] ∧ f.nl = f.nh := by
 have hw : (fpAt C s o i { s.h with lo := s.h.nx }).wr = some [] ∧ (fpAt C s o i { s.h with lo := s.h.nx }).nl = (fpAt C s o i { s.h with lo := s.h.nx }).nh := by
  unfold fpAt
  rcases hfp with h | ⟨r, h⟩
  ·rw [h]; refine ⟨?_, rfl⟩
   show (bif Nat.ble s.h.nx s.h.nx then some [] else none) = some []
   rw [Nat.ble_eq_true_of_le (Nat.le_refl _)]; rfl
  ·rw [h]; exact ⟨rfl, rfl⟩
 generalize fpAt C s o i { s.h with lo := s.h.nx } = f at hw
 obtain ⟨h1, h2⟩ := hw
 unfold q0T
 split
 ·rw [h2]
  cases Nat.blt f.nh f.nh with
  | true => exact ⟨_, rfl, fun g hm => (List.mem_cons.1 hm).elim (fun e => by subst e; exact ⟨h1, h2⟩) (hf g)⟩
  | false => exact ⟨_, rfl, hf⟩
 ·rw [q9g h1 fps hf]
  exact ⟨_, rfl, fun g hm => (List.mem_cons.1 hm).elim (fun e => by subst e; exact ⟨h1, h2⟩) (hf g)⟩
theorem lows_same {g : Hp} (hlo : g.lo = 0) : ({ nx := g.nx, m := g.m, lo := bif Nat.ble g.lo g.nx then g.lo else g.nx } : Hp) = g := by
 cases g; simp only at hlo; subst hlo; rfl
theorem runQ_draw {ms : List Nat} : ∀ (rest : List Oper) (i : Nat) (fps : List FP) (l : Kn) (s : St) (l' : Kn), (∀ f ∈ fps, f.wr = some [] ∧ f.nl = f.nh) → h.lo = 0 → Atk s n rd l h ds → runQ P C n all rest l h = some l' →
    ∃ s1, q5N P C nix all ms rest i fps s = some (.normal, s1) ∧ Atk s1 n rd l' h ds
  | [], i, fps, l, s, l', _, _, hs, hr => by cases hr; exact ⟨s, rfl, hs⟩
  | o :: r, i, fps, l, s, l', hf, hlo, hs, hr => by
    unfold runQ at hr
    unfold q5N
    -- behind an operation
    have next : ∀ v, (match o.dst with | some d => if d < n then runQ P C n all r ((d, v) :: l) h else none | none => runQ P C n all r l h) = some l' → ∀ fps', (∀ f ∈ fps', f.wr = some [] ∧ f.nl = f.nh) →
        ∃ s1, (match putD s o.dst v h with | some s' => q5N P C nix all ms r (Nat.succ i) fps' s' | none => none) = some (.normal, s1) ∧ Atk s1 n rd l' h ds := fun v hv fps' hf' => by
      split at hv
      · rename_i d hd
        split at hv
        case isFalse => cases hv
        rename_i hdn
        obtain ⟨s2, hp, hs2⟩ := hs.put (d := d) (Nat.ble_eq_true_of_le hdn) v h
        rw [hd, hp]
        exact runQ_draw r _ fps' _ s2 l' hf' hlo hs2 hv
      · rename_i hd
        obtain ⟨s2, hp, hs2⟩ := hs.put0 v h
        rw [hd, hp]
        exact runQ_draw r _ fps' _ s2 l' hf' hlo hs2 hv
    have hh := hs.h
    split at hr
    · cases hr
    · rename_i hw
      rw [hs.want hw, hh]
      exact next (.tup []) hr fps hf
    · rename_i hw
      rw [hs.want hw]
      dsimp only
      split at hr
      · -- a call
        rename_i x aas hc
        split at hr
        case h_2 => cases hr
        rename_i g first cap vs hx has
        split at hr
        case h_2 => cases hr
        rename_i fn v hext hfn horc
        split at hr
        case isFalse => cases hr
        rename_i hbody
        obtain ⟨c, hb⟩ := Option.isSome_iff_exists.1 hbody
        have hcall : ∀ g' : Hp, callF C nix g (first ++ vs ++ cap) g' = some (.val v g') := fun g' => by
          unfold callF
          rw [hfn]; dsimp only; rw [hb]; dsimp only; rw [horc]
        have ho : ∀ s' : St, Atk s' n rd l s'.h ds → opA P C nix s' o = some (.val v s'.h) := fun s' hs' => by
          unfold callOf at hc
          split at hc
          case h_2 => cases hc
          rename_i c' hop
          split at hc
          case h_2 => cases hc
          rename_i f' hcal
          cases hc
          unfold opA
          rw [hop]
          dsimp only
          rw [hcal]
          dsimp only
          rw [hs'.ev hx, hs'.evs has]
          show (match C.ext g (first ++ vs ++ cap) with | some v => some (OpR.val v s'.h) | none => callF C nix g (first ++ vs ++ cap) s'.h) = _
          rw [hext]
          exact hcall _
        have hfp : fpOf C s o = none := by
          unfold callOf at hc
          split at hc
          case h_2 => cases hc
          rename_i c' hop
          split at hc
          case h_2 => cases hc
          rename_i f' hcal
          unfold fpOf
          rw [hop]; dsimp only; rw [hcal]
        have ho1 := ho { s with h := { s.h with lo := s.h.nx } } ⟨hs.n, rfl, hs.ds, hs.rd, hs.tm⟩
        obtain ⟨fps', h3, h4⟩ := still_op i ms fps hf (by rw [hh]; exact hlo) ho1 (.inl hfp)
        rw [ho1]
        dsimp only
        rw [h3]
        dsimp only
        rw [lows_same (by rw [hh]; exact hlo), hh]
        exact next v hr fps' h4
      · split at hr
        case isFalse => cases hr
        rename_i hq
        split at hr
        case isFalse => cases hr
        rename_i hk
        split at hr
        case h_2 => cases hr
        rename_i v g ho
        have ho0 : opA P C nix s o = some (.val v g) := by
          rw [q6u (s' := knSt l h) hh (fun x hx => q6w hs hk x (by simpa using hx))]
          exact ho
        obtain rfl := quiet_heap hq ho0
        obtain ⟨rd', hfp⟩ := quiet_fp (C := C) (s := s) hq
        obtain ⟨g', h1, h2, _⟩ := opA_loc (s' := { s with h := { s.h with lo := s.h.nx } }) hfp ho0 (fun x _ => by cases x <;> rfl) rfl (fun _ _ => rfl)
        obtain rfl := quiet_heap hq h1
        obtain ⟨fps', h3, h4⟩ := still_op i ms fps hf (by rw [hh]; exact hlo) h1 (.inr ⟨_, hfp⟩)
        rw [h1]
        dsimp only
        rw [h3]
        dsimp only
        rw [lows_same (by rw [hh]; exact hlo), hh]
        exact next v hr fps' h4
theorem TW.drawQ (hP : POk P F gl K) {id : Nat} {ops : Array Oper} (T : List (FuncId × List AV × AV)) (hT : ∀ e ∈ T, q0y P F e.1 e.2.1 e.2.2) (hok : q7o ops.toList ops.toList (masks [] ops.toList) 0 [] = true) {r : Option Kn}
    (hr : runQ P (Ctx.of P gl (K.tell T)) n ops.toList ops.toList l h.z = r) (hg : match r with | some l' => Q .normal l' h.z ds | none => False) : TW P F (.region id ops true) n rd l h ds Q := by
  refine TW.z fun s hs m a w fe k hrel ha hf hF => ?_
  cases r with
  | none => exact False.elim hg
  | some l' =>
    have hP' := pok_tell hP hT
    obtain ⟨s1, h1, h2⟩ := runQ_draw (ms := masks [] ops.toList) ops.toList 0 [] l s l' (fun f hf => by cases hf) rfl hs hr
    have hd : drawF P (Ctx.of P gl (K.tell T)) nix ops.toList (masks [] ops.toList) s = some (.normal, s1) := by
      unfold drawF
      rw [hok]; exact h1
    obtain ⟨g1, g2, g3, g4⟩ := draw_rel hP' nix q0e ops s _ s1 hd
    have hh := hs.h
    have hrd := hs.rd
    rw [hh, hrd] at g4
    refine wpIn_mono (g4 m a w fe k id hrel ha hf fun r h3 _ => hF r h3) fun x a' w' hp => ?_
    exact ⟨_, s1, l', h.z, ds, hg, h2, .refl _, hp⟩
end Go.Ax
noncomputable section
namespace Go.Ax
structure Wid (h g : Hp) : Prop where
 nx : h.nx ≤ g.nx
 get : ∀ r, r < h.nx → g.get r = h.get r
theorem Wid.refl (h : Hp) : Wid h h := ⟨Nat.le_refl _, fun _ _ => rfl⟩
theorem Wid.trans {a b c : Hp} (h : Wid a b) (k : Wid b c) : Wid a c := ⟨Nat.le_trans h.nx k.nx, fun r hr => (k.get r (Nat.lt_of_lt_of_le hr h.nx)).trans (h.get r hr)⟩
theorem Wid.new {h g : Hp} (k : Wid h g) (o : AObj) : Wid h (g.new o) := ⟨Nat.le_trans k.nx (Nat.le_succ _), fun r hr => by rw [Hp.get_new, if_neg (by have := k.nx; omega)]; exact k.get r hr⟩
theorem Wid.put {h g : Hp} (k : Wid h g) {r : Nat} (hr : h.nx ≤ r) (o : AObj) : Wid h (g.put r o) := ⟨k.nx, fun s hs => by rw [Hp.get_put, if_neg (by omega)]; exact k.get s hs⟩
theorem Wid.z {h g : Hp} (k : Wid h g) : Wid h g.z := ⟨k.nx, k.get⟩
theorem Wid.at {h g : Hp} (k : Wid h g) {r : Nat} {o : AObj} (hg : h.get r = some o) (hr : r < h.nx) : g.get r = some o := (k.get r hr).trans hg
variable {P : Program} {F : Nat → Option Obj} {gl : Nat → AV} {K : Knob} {C : Ctx} {n : Nat} {rd : Option Nat} {l l' : Kn} {h h1 : Hp} {ds : List ADef} {s : St} {Q Q' : PQ} {all rest : List Oper}
abbrev Qt (P : Program) (F : Nat → Option Obj) (h : Hp) (v : AV) (f : FuncId) (args : List AV) : Prop := CallsT P F h (fun u g => u = v ∧ Wid h g) f args
theorem TO.qcall (hP : POk P F gl K) {g : FuncId} {x : Operand} {aas : Array Operand} {ts : Array TypeId} {d : Nat} {ty : TypeId} {pos : String} {aft : Array Edge} {gd : Option (Nat × Bool)} {first cap vs args : List AV} {v : AV}
  (hf : IsFn P g) (hc : Qt P F h v g args) (hw : q5x all l ⟨some d, .call { callee := .value x, args := aas, argTypes := ts }, ty, pos, aft, gd⟩ = some true) (hb : Nat.blt d n = true)
  (hx : evK (Ctx.of P gl K) l x = some (.fn (.func g) first cap)) (ha : evsK (Ctx.of P gl K) l aas.toList = some vs) (he : first ++ vs ++ cap = args)
  (k : ∀ h', Wid h h' → TO P F all rest n rd ((d, v) :: l) h' ds Q) : TO P F all (⟨some d, .call { callee := .value x, args := aas, argTypes := ts }, ty, pos, aft, gd⟩ :: rest) n rd l h ds Q :=
 .ucall hP hw hb hx ha hf (by rw [he]; exact hc) fun _ h' e => by obtain ⟨rfl, hw⟩ := e; exact k h' hw
theorem TO.scall (hP : POk P F gl K) {g : FuncId} {x : Operand} {aas : Array Operand} {ts : Array TypeId} {d : Nat} {ty : TypeId} {pos : String} {aft : Array Edge} {gd : Option (Nat × Bool)} {first cap vs args : List AV} {v : AV}
  (hf : IsFn P g) (hc : q0y P F g args v) (hw : q5x all l ⟨some d, .call { callee := .value x, args := aas, argTypes := ts }, ty, pos, aft, gd⟩ = some true) (hb : Nat.blt d n = true)
  (hx : evK (Ctx.of P gl K) l x = some (.fn (.func g) first cap)) (ha : evsK (Ctx.of P gl K) l aas.toList = some vs) (he : first ++ vs ++ cap = args)
  (k : TO P F all rest n rd ((d, v) :: l) h ds Q) : TO P F all (⟨some d, .call { callee := .value x, args := aas, argTypes := ts }, ty, pos, aft, gd⟩ :: rest) n rd l h ds Q :=
 .ucall hP hw hb hx ha hf (by rw [he]; exact .of_pure hc) fun _ h' e => by obtain ⟨rfl, rfl⟩ := e; exact k
end Go.Ax
noncomputable section
namespace Go.Ax
variable {C : Ctx} {h : Hp}
structure WidB (b : Nat) (h g : Hp) : Prop where
 nx : h.nx ≤ g.nx
 get : ∀ r, r < b → g.get r = h.get r
theorem WidB.refl (b : Nat) (h : Hp) : WidB b h h := ⟨Nat.le_refl _, fun _ _ => rfl⟩
theorem WidB.trans {b : Nat} {x y z : Hp} (h : WidB b x y) (k : WidB b y z) : WidB b x z := ⟨Nat.le_trans h.nx k.nx, fun r hr => (k.get r hr).trans (h.get r hr)⟩
theorem WidB.new {b : Nat} {h g : Hp} (k : WidB b h g) (hb : b ≤ g.nx) (o : AObj) : WidB b h (g.new o) := ⟨Nat.le_trans k.nx (Nat.le_succ _), fun r hr => by rw [Hp.get_new, if_neg (by omega)]; exact k.get r hr⟩
theorem WidB.put {b : Nat} {h g : Hp} (k : WidB b h g) {r : Nat} (hr : b ≤ r) (o : AObj) : WidB b h (g.put r o) := ⟨k.nx, fun s hs => by rw [Hp.get_put, if_neg (by omega)]; exact k.get s hs⟩
def Own (es : Nat) (eT : TypeId) (b : Nat) (h : Hp) (v : AV) (rows : List (List AV)) : Prop :=
 (v = .nilsl ∧ rows = []) ∨ (rows ≠ [] ∧ ∃ r, b ≤ r ∧ r < h.nx ∧ v = .sl r 0 rows.length rows.length es false ∧ h.get r = some (.cells eT rows.flatten))
theorem Own.nil {es : Nat} {eT : TypeId} {b : Nat} {h : Hp} : Own es eT b h .nilsl [] := .inl ⟨rfl, rfl⟩
theorem Own.wid {es : Nat} {eT : TypeId} {b : Nat} {h g : Hp} {v : AV} {rows : List (List AV)} (ho : Own es eT b h v rows) (hw : Wid h g) : Own es eT b g v rows := by
 rcases ho with h1 | ⟨h1, r, h2, h3, h4, h5⟩
 ·exact .inl h1
 ·exact .inr ⟨h1, r, h2, by have := hw.nx; omega, h4, hw.at h5 h3⟩
theorem q4L {es : Nat} : ∀ {rows : List (List AV)}, (∀ c ∈ rows, c.length = es) → rows.flatten.length = rows.length * es
  | [], _ => by simp
  | c :: r, h => by
    rw [List.flatten_cons, List.length_append, h c List.mem_cons_self, q4L fun x hx => h x (List.mem_cons_of_mem _ hx), List.length_cons, Nat.add_mul, Nat.one_mul, Nat.add_comm]
def slT (C : Ctx) (t eT : TypeId) (es : Nat) : Bool :=
 match C.ti t, C.ti eT with
 | some { desc := .slice e, .. }, some y => decide (e = eT) && (decide (y.size = es) && (y.zeroOk && decide (y.bytes ≤ 1000000)))
 | _, _ => false
theorem Own.push {es : Nat} {t eT : TypeId} {b : Nat} {v : AV} {rows : List (List AV)} {row : List AV} (ht : slT C t eT es = true) (ho : Own es eT b h v rows) (hrows : ∀ c ∈ rows, c.length = es) (hrow : row.length = es) (hcell : row.all q0P = true) (hlen : rows.length < 1000000) (hb : b ≤ h.nx) :
    ∃ v' h', q0S C t t v (.sl h.nx 0 1 1 es true) (h.new (.cells eT row)) = some (v', h') ∧ Own es eT b h' v' (rows ++ [row]) ∧ WidB b h h' ∧ h'.nx = h.nx + 2 := by
  unfold slT at ht
  split at ht
  case h_2 => cases ht
  rename_i e size isAgg zero zeroOk bytes comparable zv y hti hy
  simp only [Bool.and_eq_true, decide_eq_true_eq] at ht
  obtain ⟨rfl, hys, hz, hby⟩ := ht
  have hsrc : q1e (h.new (.cells e row)) y.size 1 (.sl h.nx 0 1 1 es true) = some row := by
    unfold q1e
    simp [get_new, sub, hys, ← hrow]
  have key : ∀ s, q0S C t t s (.sl h.nx 0 1 1 es true) (h.new (.cells e row)) = (match s with
        | .nilsl => some (.sl (h.nx + 1) 0 1 1 y.size false, (h.new (.cells e row)).new (.cells e row))
        | .sl r o len cap es' ex =>
          (match (h.new (.cells e row)).get r with
           | some (.cells e' cs) =>
             bif Nat.beq es' y.size && (Nat.ble (Nat.add o (Nat.mul len es')) cs.length && Nat.ble (Nat.add len 1) 1000000) then
               bif Nat.ble (Nat.add len 1) cap then
                 (bif Nat.ble (Nat.add (Nat.add o (Nat.mul len es')) row.length) cs.length then
                   some (.sl r o (Nat.add len 1) cap es' ex, (h.new (.cells e row)).put r (.cells e' (q1y cs (Nat.add o (Nat.mul len es')) row))) else none)
               else bif ex then some (.sl (h.nx + 1) 0 (Nat.add len 1) (Nat.add len 1) es' false, (h.new (.cells e row)).new (.cells e ((cs.drop o).take (Nat.mul len es') ++ row)))
               else bif Nat.beq o 0 && Nat.ble (Nat.mul len es') cs.length then
                 (bif Nat.beq e e' then some (.sl (h.nx + 1) 0 (Nat.add len 1) (Nat.add len 1) es' false, ((h.new (.cells e row)).put r .dead).new (.cells e' (cs.take (Nat.mul len es') ++ row))) else none)
               else none
             else none
           | _ => none)
        | _ => none) := fun s => by
    unfold q0S
    simp only [hti, hy, lenA, q8I, hsrc, hcell, hz]
    have h1 : Nat.ble y.bytes 1000000 = true := Nat.ble_eq_true_of_le hby
    have h2 : Nat.beq row.length (Nat.mul 1 y.size) = true := by rw [hrow, hys, Nat.mul_eq, Nat.one_mul, Nat.beq_refl]
    rw [h1, h2]
    cases s <;> rfl
  rcases ho with ⟨rfl, rfl⟩ | ⟨hne, r, hbr, hrn, rfl, hg⟩
  · refine ⟨_, _, key _, .inr ⟨by simp, h.nx + 1, by omega, Nat.lt_succ_self _, ?_, ?_⟩, (WidB.refl b h).new hb _ |>.new (by show b ≤ h.nx + 1; omega) _, rfl⟩
    · simp [hys]
    · simp [get_new, nx_new]
  · have hg' : (h.new (.cells e row)).get r = some (.cells e rows.flatten) := by rw [get_new, if_neg (by omega)]; exact hg
    have hfl := q4L hrows
    refine ⟨.sl (h.nx + 1) 0 (rows.length + 1) (rows.length + 1) es false, ((h.new (.cells e row)).put r .dead).new (.cells e (rows.flatten ++ row)), ?_, .inr ⟨by simp, h.nx + 1, by omega, Nat.lt_succ_self _, ?_, ?_⟩, ?_, rfl⟩
    · rw [key]
      dsimp only
      rw [hg']
      have e1 : Nat.beq es y.size = true := by rw [hys, Nat.beq_refl]
      have e2 : Nat.ble (Nat.add 0 (Nat.mul rows.length es)) rows.flatten.length = true := Nat.ble_eq_true_of_le (by rw [hfl]; simp)
      have e3 : Nat.ble (Nat.add rows.length 1) 1000000 = true := Nat.ble_eq_true_of_le (by simp; omega)
      have e4 : Nat.ble (Nat.add rows.length 1) rows.length = false := by
        cases hc : Nat.ble (Nat.add rows.length 1) rows.length with
        | false => rfl
        | true => have := Nat.le_of_ble_eq_true hc; simp at this; omega
      have e5 : Nat.ble (Nat.mul rows.length es) rows.flatten.length = true := Nat.ble_eq_true_of_le (by rw [hfl]; exact Nat.le_refl _)
      dsimp only
      rw [e1, e2, e3, e4, e5, Nat.beq_refl, Nat.beq_refl]
      have e6 : rows.flatten.take (Nat.mul rows.length es) = rows.flatten := List.take_of_length_le (by rw [hfl]; exact Nat.le_refl _)
      rw [e6]
      rfl
    · simp
    · simp [get_new, nx_new, nx_put]
    · exact (((WidB.refl b h).new hb _).put hbr _).new (by show b ≤ h.nx + 1; omega) _
theorem a_append {P : Program} {ih : Code → St → Res} {s : St} {dd : Option Nat} {x y : Operand} {t u : TypeId} {ts : List TypeId} {ty : TypeId} {pos : String} {aft : Array Edge} {gd : Option (Nat × Bool)} :
  opA P C ih s ⟨dd, .call { callee := .builtin .append, args := #[x, y], argTypes := ⟨t :: u :: ts⟩ }, ty, pos, aft, gd⟩ = (q0S C t u (s.ev C x) (s.ev C y) s.h).map fun r => .val r.1 r.2 := by
 show (match q0S C t u (s.ev C x) (s.ev C y) s.h with | some (v, h') => some (OpR.val v h') | none => none) = _
 cases q0S C t u (s.ev C x) (s.ev C y) s.h <;> rfl
theorem a_buildSlice {P : Program} {ih : Code → St → Res} {s : St} {dd : Option Nat} {t : TypeId} {k : Nat} {ps : Array (Nat × Operand)} {ty : TypeId} {pos : String} {aft : Array Edge} {gd : Option (Nat × Bool)} :
  opA P C ih s ⟨dd, .buildSlice t k ps, ty, pos, aft, gd⟩ = (buildSlice C t k (ps.toList.map fun p => (p.1, s.ev C p.2)) s.h).map fun r => .val r.1 r.2 := by
 show ov _ (buildSlice C t k (ps.toList.map fun p => (p.1, s.ev C p.2)) s.h) = _
 cases buildSlice C t k (ps.toList.map fun p => (p.1, s.ev C p.2)) s.h <;> rfl
theorem a_build {P : Program} {ih : Code → St → Res} {s : St} {dd : Option Nat} {t : TypeId} {ps : Array (Nat × Operand)} {ty : TypeId} {pos : String} {aft : Array Edge} {gd : Option (Nat × Bool)} :
  opA P C ih s ⟨dd, .build t ps, ty, pos, aft, gd⟩ = (build C t (ps.toList.map fun p => (p.1, s.ev C p.2))).map fun v => .val v s.h := by
 show ov _ (build C t (ps.toList.map fun p => (p.1, s.ev C p.2))) = _
 cases build C t (ps.toList.map fun p => (p.1, s.ev C p.2)) <;> rfl
theorem zeroCells_eq (z : List AV) : ∀ k, zeroCells k z = (List.replicate k z).flatten
  | 0 => rfl
  | k + 1 => by
    show z ++ zeroCells k z = _
    rw [zeroCells_eq z k, List.replicate_succ, List.flatten_cons]
attribute [simp] a_append a_buildSlice a_build buildSlice build fillA zeroCells_eq
def RdI (h : Hp) (v : AV) (xs : List Int) : Prop :=
 (v = .nilsl ∧ xs = []) ∨ v = .isl (xs.map fun n => [.int .i64 n]) ∨
  ∃ r o cap ex e cs, v = .sl r o xs.length cap 1 ex ∧ r < h.nx ∧ h.get r = some (.cells e cs) ∧ o + xs.length ≤ cs.length ∧ ∀ i (hi : i < xs.length), cs[o + i]? = some (.int .i64 xs[i])
theorem RdI.wid {g : Hp} {v : AV} {xs : List Int} (hr : RdI h v xs) (hw : Wid h g) : RdI g v xs := by
 rcases hr with h1 | h1 | ⟨r, o, cap, ex, e, cs, h1, h2, h3, h5, h4⟩
 ·exact .inl h1
 ·exact .inr (.inl h1)
 ·exact .inr (.inr ⟨r, o, cap, ex, e, cs, h1, by have := hw.nx; omega, hw.at h3 h2, h5, h4⟩)
theorem RdI.len {v : AV} {xs : List Int} (hr : RdI h v xs) : lenA v = some xs.length ∧ ∀ s, v ≠ .str s := by
 rcases hr with ⟨rfl, rfl⟩ | rfl | ⟨r, o, cap, ex, e, cs, rfl, _⟩
 ·exact ⟨rfl, nofun⟩
 ·exact ⟨by simp [lenA], nofun⟩
 ·exact ⟨rfl, nofun⟩
theorem RdI.lenOf {v : AV} {xs : List Int} {t eT : TypeId} {es : Nat} (hr : RdI h v xs) (ht : slT C t eT es = true) (g : Hp) : q3k C t v g = some (.int .i64 xs.length) := by
 unfold slT at ht
 split at ht
 case h_2 => cases ht
 rename_i e size isAgg zero zeroOk bytes comparable zv y hti hy
 unfold q3k
 rw [hti]
 obtain ⟨h1, h2⟩ := hr.len
 cases v <;> first | exact absurd rfl (h2 _) | (dsimp only; rw [h1]; rfl)
theorem RdI.at' {v : AV} {xs : List Int} {t eT : TypeId} (hr : RdI h v xs) (ht : slT C t eT 1 = true) (hs : (match C.ti eT with | some y => y.isAgg | none => true) = false) {q : IntKind} {i : Nat} (hi : i < xs.length) :
  ∃ p, indexAt C t v (.int q i) = some p ∧ ∀ g, Wid h g → loadAt C eT p g = some (.int .i64 xs[i]) := by
 unfold slT at ht
 split at ht
 case h_2 => cases ht
 rename_i e size isAgg zero zeroOk bytes comparable zv y hti hy
 simp only [Bool.and_eq_true, decide_eq_true_eq] at ht
 obtain ⟨rfl, hys, hz, hby⟩ := ht
 rw [hy] at hs
 dsimp only at hs
 rcases hr with ⟨rfl, rfl⟩ | rfl | ⟨r, o, cap, ex, e', cs, rfl, h2, h3, h5, h4⟩
 ·simp at hi
 ·refine ⟨.iptr (xs.map fun n => [.int .i64 n]) i 0, ?_, fun g _ => ?_⟩
  ·unfold indexAt
   simp only [hti, natOf_cast, hy, List.getElem?_map, List.getElem?_eq_getElem hi, Option.map_some, List.length_cons, List.length_nil, hys]
   rfl
  ·unfold loadAt
   simp only [hy, List.getElem?_map, List.getElem?_eq_getElem hi, Option.map_some, q4u, hs]
   rfl
 ·refine ⟨.ptr r (o + i * 1), ?_, fun g hw => ?_⟩
  ·unfold indexAt
   simp only [hti, natOf_cast, hy, hys, Nat.beq_refl]
   have : Nat.blt i xs.length = true := Nat.ble_eq_true_of_le hi
   rw [this]; rfl
  ·unfold loadAt
   simp only [hy, hw.at h3 h2, q4u, hs, Nat.mul_one]
   exact h4 i hi
theorem Own.rdI {eT : TypeId} {b : Nat} {v : AV} {xs : List Int} (ho : Own 1 eT b h v (xs.map fun n => [.int .i64 n])) : RdI h v xs := by
 rcases ho with ⟨rfl, h1⟩ | ⟨hne, r, hb, hn, rfl, hg⟩
 ·exact .inl ⟨rfl, by simpa using h1⟩
 ·have : (xs.map fun n => [AV.int .i64 n]).flatten = xs.map fun n => AV.int .i64 n := by
   clear hne hn hg
   induction xs with
   | nil => rfl
   | cons a l ih => simp [ih]
  rw [this] at hg
  refine .inr (.inr ⟨r, 0, xs.length, false, eT, _, by simp, hn, hg, by simp, fun i hi => ?_⟩)
  simp [hi]
theorem Own.frz {es : Nat} {eT : TypeId} {b : Nat} {v : AV} {rows : List (List AV)} {rows' : List (List AV)} {k : Nat} (ho : Own es eT b h v rows) (hrows : ∀ c ∈ rows, c.length = es) (hf : mapO (mapO (frzV k h)) rows = some rows') :
    frzV (k + 1) h v = some (match rows' with | [] => .nilsl | l => .isl l) := by
  have len : ∀ {α β : Type} {f : α → Option β} {l : List α} {l' : List β}, mapO f l = some l' → l'.length = l.length := fun {α β f} => by
    intro l
    induction l with
    | nil => intro l' h; cases h; rfl
    | cons a l ih =>
      intro l' h
      unfold mapO at h
      split at h
      case h_2 => cases h
      split at h
      case h_2 => cases h
      rename_i k hk
      cases h
      simp [ih hk]
  rcases ho with ⟨rfl, rfl⟩ | ⟨hne, r, hb, hn, rfl, hg⟩
  · cases hf; rfl
  · have hfl := q4L hrows
    have hch : ∀ (rows : List (List AV)), (∀ c ∈ rows, c.length = es) → chunks es rows.length rows.flatten = rows := by
      intro rows
      induction rows with
      | nil => intro _; rfl
      | cons c l ih =>
        intro hc
        have h1 := hc c List.mem_cons_self
        show ((c ++ l.flatten).take es) :: chunks es l.length ((c ++ l.flatten).drop es) = _
        rw [List.take_left' h1, List.drop_left' h1, ih fun x hx => hc x (List.mem_cons_of_mem _ hx)]
    have h1 := len hf
    have h2 : rows' ≠ [] := fun e => hne (List.eq_nil_of_length_eq_zero (by rw [← h1, e]; rfl))
    unfold frzV
    simp only [hg, List.drop_zero, hch rows hrows, hf]
    have h3 : Nat.ble (Nat.add 0 (Nat.mul rows.length es)) rows.flatten.length = true := Nat.ble_eq_true_of_le (by rw [hfl]; simp)
    rw [h3]
    cases rows' with
    | nil => exact absurd rfl h2
    | cons _ _ => rfl
theorem RdI.src {v : AV} {xs : List Int} (hr : RdI h v xs) : q1e h 1 xs.length v = some (xs.map (.int .i64)) := by
 rcases hr with ⟨rfl, rfl⟩ | rfl | ⟨r, o, cap, ex, e, cs, rfl, h2, h3, h5, h4⟩
 ·rfl
 ·unfold q1e
  dsimp only
  have h1 : (xs.map fun n => [AV.int .i64 n]).all (fun c => Nat.beq c.length 1) = true := by rw [List.all_eq_true]; intro c hc; obtain ⟨n, _, rfl⟩ := List.mem_map.1 hc; rfl
  have h2 : Nat.ble xs.length (xs.map fun n => [AV.int .i64 n]).length = true := Nat.ble_eq_true_of_le (by simp)
  rw [h1, h2]
  have h3 : ((xs.map fun n => [AV.int .i64 n]).take xs.length).flatten = xs.map fun n => AV.int .i64 n := by
   rw [List.take_of_length_le (by simp)]
   clear h1 h2
   induction xs with
   | nil => rfl
   | cons a l ih => simp [ih]
  simp only [Bool.and_self, cond_true, h3]
 ·unfold q1e
  dsimp only
  rw [Nat.ble_eq_true_of_le (Nat.le_refl _), Nat.beq_refl]
  simp only [Bool.and_self, cond_true, h3]
  unfold sub
  rw [Nat.ble_eq_true_of_le (show Nat.add o (Nat.mul xs.length 1) ≤ cs.length by simpa using h5), cond_true, Nat.mul_eq, Nat.mul_one]
  congr 1
  apply List.ext_getElem?
  intro i
  by_cases hi : i < xs.length
  ·rw [List.getElem?_take_of_lt hi, List.getElem?_drop, h4 i hi, List.getElem?_map, List.getElem?_eq_getElem hi]; rfl
  ·rw [List.getElem?_take_eq_none (by omega), List.getElem?_eq_none (by simp; omega)]
theorem app_lit {t eT : TypeId} (ht : slT C t eT 1 = true) {q : Nat} {x : Int} {v : AV} {xs : List Int} (hq : h.get q = some (.cells eT [.int .i64 x])) (hqn : q < h.nx) (hr : RdI h v xs) (hlen : xs.length < 999999) :
    ∃ v' h', q0S C t t (.sl q 0 1 1 1 true) v h = some (v', h') ∧ RdI h' v' (x :: xs) ∧ (∀ r, r < h.nx → h'.get r = h.get r) ∧ h.nx ≤ h'.nx := by
  have hl := hr.len.1
  have hsrc := hr.src
  unfold slT at ht
  split at ht
  case h_2 => cases ht
  rename_i e size isAgg zero zeroOk bytes comparable zv y hti hy
  simp only [Bool.and_eq_true, decide_eq_true_eq] at ht
  obtain ⟨rfl, hys, hz, hby⟩ := ht
  have hcell : (xs.map (AV.int .i64)).all q0P = true := by rw [List.all_eq_true]; intro c hc; obtain ⟨n, _, rfl⟩ := List.mem_map.1 hc; rfl
  have h1 : Nat.ble y.bytes 1000000 = true := Nat.ble_eq_true_of_le hby
  have h2 : Nat.beq (xs.map (AV.int .i64)).length (Nat.mul xs.length y.size) = true := by rw [hys, Nat.mul_eq, Nat.mul_one, List.length_map, Nat.beq_refl]
  have e1 : Nat.beq 1 y.size = true := by rw [hys]; rfl
  have e3 : Nat.ble (Nat.add 1 xs.length) 1000000 = true := Nat.ble_eq_true_of_le (by simp; omega)
  by_cases hx : xs = []
  · subst hx
    refine ⟨.sl q 0 1 1 1 true, h.put q (.cells e [.int .i64 x]), ?_, .inr (.inr ⟨q, 0, 1, true, e, _, rfl, hqn, by rw [get_put, if_pos rfl], by simp, fun i hi => ?_⟩), fun r hr => ?_, Nat.le_refl _⟩
    · unfold q0S
      simp only [hti, hy, hl, q8I, hys, hsrc, hcell, h1]
      simp only [hq]
      rfl
    · have : i = 0 := by simpa using hi
      subst this; rfl
    · rw [get_put]
      by_cases hqr : q = r
      · subst hqr; rw [if_pos rfl, hq]
      · rw [if_neg hqr]
  · have hpos : 0 < xs.length := List.length_pos_iff.2 hx
    have e4 : Nat.ble (Nat.add 1 xs.length) 1 = false := by
      cases hc : Nat.ble (Nat.add 1 xs.length) 1 with
      | false => rfl
      | true => have := Nat.le_of_ble_eq_true hc; simp at this; omega
    refine ⟨.sl h.nx 0 (1 + xs.length) (1 + xs.length) 1 false, h.new (.cells e ([.int .i64 x] ++ xs.map (.int .i64))), ?_, .inr (.inr ⟨h.nx, 0, 1 + xs.length, false, e, _, by simp [Nat.add_comm], Nat.lt_succ_self _, by rw [get_new, if_pos rfl], by simp, fun i hi => ?_⟩), fun r hr => by rw [get_new, if_neg (by omega)], Nat.le_succ _⟩
    · unfold q0S
      simp only [hti, hy, hl, q8I, hys, hsrc, hcell, h1]
      rw [hys] at h2
      rw [h2]
      simp only [hq, hz]
      rw [e3, e4]
      rfl
    · cases i with
      | zero => rfl
      | succ i =>
        have hi' : i < xs.length := by simpa using hi
        simp [hi']
theorem rdI_lit {q : Nat} {x : Int} {e : TypeId} {ex : Bool} {cap : Nat} (hg : h.get q = some (.cells e [.int .i64 x])) (hq : q < h.nx) : RdI h (.sl q 0 1 cap 1 ex) [x] :=
 .inr (.inr ⟨q, 0, cap, ex, e, _, rfl, hq, hg, Nat.le_refl _, fun i hi => by have : i = 0 := (by simpa using hi); subst this; rfl⟩)
theorem TW.gen {P : Program} {F : Nat → Option Obj} {c : Code} {n : Nat} {rd : Option Nat} {l : Kn} {ds : List ADef} {Q : PQ} (p : Hp → Prop) (hp : p h) (ht : ∀ g, p g → TW P F c n rd l g ds Q) : TW P F c n rd l h ds Q := ht h hp
theorem bMul {C : Ctx} {t : TypeId} {a b : Int} (h1 : -9223372036854775808 ≤ a * b) (h2 : a * b ≤ 9223372036854775807) : q0Z C .mul t (.int .i64 a) (.int .i64 b) = some (.int .i64 (a * b)) := by
 show some (AV.int .i64 (q8s .i64 (mulI a b))) = _; rw [mulI_eq, wrap_i64 h1 h2]
theorem inc_ {C : Ctx} {t : TypeId} {i : Nat} (h1 : i < 4611686018427387904) : q0Z C .add t (.int .i64 (i : Int)) (.int .i64 1) = some (.int .i64 ((i : Int) + 1)) := bAdd (by omega) (by omega)
end Go.Ax
noncomputable section
namespace Go.Ax
variable {P : Program} {F : Nat → Option Obj} {gl : Nat → AV} {K : Knob} {C : Ctx} {n : Nat} {rd : Option Nat} {l l' : Kn} {h h1 : Hp} {ds : List ADef} {s : St} {Q Q' : PQ} {all rest : List Oper}
def RoundT (P : Program) (F : Nat → Option Obj) (h : Hp) (O : AV → Hp → Prop) (lp : Nat) (args : List AV) : Prop :=
 ∀ (m : Loc) (w : World) (k : Nat) (cargs : Array Value) (b z : Nat), m lp = some (b, z) → HRel P F m h w → LRel P F m args cargs.toList → Fre m h →
  ∃ f tmps asn body, (Instr.yield b cargs).run P w = .ok (.round b f tmps asn body) w ∧ RoundIn Fence.wide k P b f tmps asn body w (fun e w' => ∃ v h', O v h' ∧ HpLe h h' ∧ Heard P F m h h' w v e w')
def endR (lp : Nat) (O : AV → Hp → Prop) : PQ := fun e _ g _ => ∃ pd tm n ps asn body dd, g.get lp = some (.loop .busy pd tm n ps asn body dd) ∧ match e with
 | .normal => O (.bool true) (g.put lp (.loop .ready none tm n ps asn body dd))
 | .ret => O (.bool false) (g.put lp (.loop .done (some .ret) tm n ps asn body dd))
 | .exit id => O (.bool false) (g.put lp (.loop .done (some (.exit id)) tm n ps asn body dd))
 | .goto t => O (.bool false) (g.put lp (.loop .done (some (.goto t)) tm n ps asn body dd))
 | .panic _ => False
theorem RoundT.intro {O : AV → Hp → Prop} {lp : Nat} {args : List AV} {pd : Option Code} {tm tm' : Tr AV} {ps : List Nat} {asn body : Code} {dd : Nat} (hg : h.get lp = some (.loop .ready pd tm n ps asn body dd)) (hp : z1u tm ps args = some tm') (hps : (ps.all fun p => Nat.blt p n) = true)
  (l0 : Kn) (hl : ∀ t v, kn l0 t = some v → tget tm' t = v)
  (ht : TW P F asn n (some lp) l0 h [] (fun e l1 h1 ds1 => e = .normal ∧ ∃ pd2 tm2 n2 ps2 as2 b2 dd2, h1.get lp = some (.loop .ready pd2 tm2 n2 ps2 as2 b2 dd2) ∧ TW P F body n (some lp) l1 (h1.put lp (.loop .busy pd2 tm2 n2 ps2 as2 b2 dd2)) ds1 (endR lp O))) :
  RoundT P F h O lp args := by
 intro m w k cargs b z hm hr hA hF
 obtain ⟨fn, tmps, cds, zd, h1, h2, h3⟩ := loop_at hr hg hm
 obtain ⟨g1, g2⟩ := q7X ps args cargs.toList tm tm' tmps hp hA hps h2
 have hsz : cargs.size = ps.toArray.size := by have := hA.len; simp at this; simp; omega
 have hfold : (ps.toArray.zip cargs).foldl (fun tmps (x : Nat × Value) => tmps.setIfInBounds x.1 x.2) tmps = (ps.zip cargs.toList).foldl (fun tmps (x : Nat × Value) => tmps.setIfInBounds x.1 x.2) tmps := by
  rw [← Array.foldl_toList]; simp [Array.toList_zip]
 refine ⟨fn, _, asn, body, run_yield h1 hsz, roundIn_of_wpIn trivial ?_⟩
 dsimp only
 rw [hfold]
 have hs0 : Atk { n := n, tm := tm', h := h, ds := [], rd := some lp } n (some lp) l0 h [] := ⟨rfl, rfl, rfl, rfl, hl⟩
 refine wpIn_mono (ht _ hs0 m _ w (Fence.wide.inRound b) k hr ⟨g2, .nil⟩ ⟨b, z, hm, rfl⟩ hF) fun x1 act1 w1 hp1 => ?_
 obtain ⟨e1, s1, l1, h1', ds1, ⟨rfl, pd2, tm2, n2, ps2, as2, b2, dd2, hg1, ht2⟩, hs1, hle1, m1, hx1, hst1, ha1⟩ := hp1
 cases hx1
 have hm1 := hst1.le _ _ hm
 rw [hs1.h] at hst1
 obtain ⟨fn1, tmps1, cds1, zd1, h11, h12, h13⟩ := loop_at hst1.rel hg1 hm1
 have hst := loop_put (st' := .busy) (pd' := pd2) (fn := fn1) hst1.rel hg1 hm1 h12 h13
 have hst1' := hst1.trans hst
 refine ⟨_, z0c h11 rfl, ?_⟩
 refine wpIn_mono (ht2 { s1 with h := h1'.put lp (.loop .busy pd2 tm2 n2 ps2 as2 b2 dd2) } ⟨hs1.n, rfl, hs1.ds, hs1.rd, hs1.tm⟩ m1 act1 _ (Fence.wide.inRound b) k hst.rel ⟨ha1.tm, ha1.ds⟩ ⟨b, z, hm1, rfl⟩ (hF.after hst1')) fun x2 act2 w2 hp2 => ?_
 obtain ⟨e2, s2, l2, h2', ds2, ⟨pd3, tm3, n3, ps3, as3, b3, dd3, hg2, hO⟩, hs2, hle2, m2, hx2, hst2, ha2⟩ := hp2
 have hh := hs2.h
 rw [← hh] at hg2 hO hle2
 have hs := hst1'.trans hst2
 have hm2 := hst2.le _ _ hm1
 have hle : ∀ o, HpLe h (s2.h.put lp o) := fun o => ((hle1.trans (HpLe.put hg1 _)).trans hle2).trans (HpLe.put hg2 o)
 cases hx2 with
 | normal => obtain ⟨v, w', q1, q2⟩ := q8O hs hg2 hm2 none; exact ⟨v, w', q1, _, _, hO, hle _, q2⟩
 | ret => obtain ⟨v, w', q1, q2⟩ := q8O hs hg2 hm2 (some .ret); exact ⟨v, w', q1, _, _, hO, hle _, q2⟩
 | exit id => obtain ⟨v, w', q1, q2⟩ := q8O hs hg2 hm2 (some (.exit id)); exact ⟨v, w', q1, _, _, hO, hle _, q2⟩
 | goto t => obtain ⟨v, w', q1, q2⟩ := q8O hs hg2 hm2 (some (.goto t)); exact ⟨v, w', q1, _, _, hO, hle _, q2⟩
 | panic hv => exact False.elim hO
theorem TO.ycall (hP : POk P F gl K) {lp : Nat} {x : Operand} {aas : Array Operand} {ts : Array TypeId} {d : Nat} {ty : TypeId} {pos : String} {aft : Array Edge} {gd : Option (Nat × Bool)} {vs : List AV} {O : AV → Hp → Prop}
  (hw : q5x all l ⟨some d, .call { callee := .value x, args := aas, argTypes := ts }, ty, pos, aft, gd⟩ = some true) (hb : Nat.blt d n = true)
  (hx : evK (Ctx.of P gl K) l x = some (.fn (.yield lp) [] [])) (hv : evsK (Ctx.of P gl K) l aas.toList = some vs) (hc : RoundT P F h O lp vs)
  (k : ∀ v h', O v h' → TO P F all rest n rd ((d, v) :: l) h' ds Q) : TO P F all (⟨some d, .call { callee := .value x, args := aas, argTypes := ts }, ty, pos, aft, gd⟩ :: rest) n rd l h ds Q := by
 intro ops i hall hdr s hs m a w fe j Qx hr ha hf hF hQ
 obtain ⟨ho', hd'⟩ := q7r hdr
 subst hall
 have ho'' : ops[i]? = some ⟨some d, .call { callee := .value x, args := aas, argTypes := ts }, ty, pos, aft, gd⟩ := by simpa using ho'
 have hwt := q4f ha (hs.want hw)
 simp only [List.length_cons, List.range'_succ, wpOpsIn, ho'', hwt, if_true]
 have hfv := q0x hP ha.tm x
 rw [hs.ev hx] at hfv
 obtain ⟨f', p, q, e1, hfn, hp, hq⟩ := hfv.fn_inv
 cases hfn with
 | yield hm =>
 rename_i b z
 have hp0 : p = #[] := by have := hp.cases_nil; simpa using this
 have hq0 : q = #[] := by have := hq.cases_nil; simpa using this
 subst hp0 hq0
 have hA : LRel P F m vs (aas.map a.eval).toList := by rw [← hs.evs hv]; exact q7R (q0x hP ha.tm) aas
 obtain ⟨f, tmps, asn, body, g1, g2⟩ := hc m w (j - 1) (aas.map a.eval) b z hm hr hA hF
 refine ⟨fun f _ => hf.fn f, ?_⟩
 have hrun : (execOp a.eval (⟨some d, .call { callee := .value x, args := aas, argTypes := ts }, ty, pos, aft, gd⟩ : Oper)).run P w = .ok (.round b f tmps asn body) w := by
  unfold execOp
  simp only [resolve, e1]
  show Sem.run P (Instr.yield b (#[] ++ aas.map a.eval)) w = _
  rw [Array.empty_append]; exact g1
 rw [Oper.semAt_eq _ _ _ (fun c e => by cases e), hrun]
 refine ⟨fun h => (by rw [hf.depth] at h; cases h), ?_⟩
 have h3 : RoundIn fe (j - 1) P b f tmps asn body w (fun e w' => ∃ v h', O v h' ∧ HpLe h h' ∧ Heard P F m h h' w v e w') := by
  cases rd with
  | none => cases hf; exact g2
  | some l => obtain ⟨_, _, _, rfl⟩ := hf; exact g2
 refine h3.mono fun e w' he => ?_
 obtain ⟨v, h', hov, hle, cv, m', rfl, hst, hv'⟩ := he
 obtain ⟨s1, hp, hs1⟩ := hs.put hb v h'
 exact k v h' hov ops (i + 1) rfl hd' s1 hs1 m' _ w' fe j Qx hst.rel (z1k hp (ha.mono hst.le) hv').1 (hf.mono hst.le) (hF.after hst) fun x a' w'' hp => hQ _ _ _ (hp.after hst hle)
def behindR (Q : PQ) (l : Kn) (d : Nat) (ds : List ADef) (g : Hp) : Prop :=
 ∃ st pd tm n ps asn body dd, g.get (d + 1) = some (.loop st pd tm n ps asn body dd) ∧ st ≠ .busy ∧ match pd with
  | none => Q .normal l (g.put (d + 1) .dead) (.coll d :: ds)
  | some .ret => Q .ret l (g.put (d + 1) .dead) (.coll d :: ds)
  | some (.exit id) => Q (.exit id) l (g.put (d + 1) .dead) (.coll d :: ds)
  | some (.goto t) => Q (.goto t) l (g.put (d + 1) .dead) (.coll d :: ds)
  | some _ => False
theorem TW.rangeF (hP : POk P F gl K) {g : Operand} {ps : Array Nat} {asn body : Code} {f : FuncId} {first cap : List AV} (hx : evK (Ctx.of P gl K) l g = some (.fn (.func f) first cap)) (hf : IsFn P f)
    (hc : ∀ tm0 : Tr AV, (∀ t v, kn l t = some v → tget tm0 t = v) → CallsT P F ((h.new (.defd (some []))).new (.loop .ready none tm0 n ps.toList asn body h.nx)) (fun _ g => behindR Q l h.nx ds g) f (first ++ [.fn (.yield (h.nx + 1)) [] []] ++ cap)) :
    TW P F (.rangeFunc g ps asn body) n none l h ds Q := by
  intro s hs m a w fe k hr ha hfe hF
  cases hfe
  have hh := hs.h
  obtain ⟨fn, c, c1, c2⟩ := hf
  have n0 : m h.nx = none := hF _ (Nat.le_refl _)
  refine wpIn_rangeFunc fun fnn _ => ?_
  have s1 : Step P F m h (h.new (.defd (some []))) w { w with heap := w.heap.push (.deferred (some [])) } (m.put h.nx w.heap.size 0) :=
    Step.alloc hr n0 (z := 0) rfl ⟨rfl, rfl, rfl⟩ (.inl ⟨rfl, rfl⟩)
  have n1 : (m.put h.nx w.heap.size 0) (h.nx + 1) = none := by
    rw [Loc.put_ne _ _ _ (by omega)]
    exact hF _ (Nat.le_succ _)
  have le1 := s1.le
  have htm : TRel P F m s.tm n a.tmps := by have := ha.tm; rw [hs.n] at this; exact this
  have s2 : Step P F (m.put h.nx w.heap.size 0) (h.new (.defd (some []))) ((h.new (.defd (some []))).new (.loop .ready none s.tm n ps.toList asn body h.nx)) { w with heap := w.heap.push (.deferred (some [])) }
      { w with heap := (w.heap.push (.deferred (some []))).push (.loop { state := .ready, pending := none, fn := fnn, tmps := a.tmps, params := ps, assign := asn, body := body, defers := w.heap.size }) }
      ((m.put h.nx w.heap.size 0).put (h.nx + 1) (w.heap.push (.deferred (some []))).size 0) := by
    refine Step.alloc s1.rel n1 (z := 0) rfl ⟨rfl, rfl, rfl⟩ ⟨fnn, a.tmps, w.heap.size, 0, by simp, ?_, ?_⟩
    · exact (htm.mono le1).mono (Loc.le_put n1)
    · rw [Loc.put_ne _ _ _ (by show h.nx ≠ h.nx + 1; omega)]; exact Loc.put_same _ _ _ _
  have s12 := s1.trans s2
  generalize hm2 : (m.put h.nx w.heap.size 0).put (h.nx + 1) (w.heap.push (.deferred (some []))).size 0 = m2 at s2 s12
  have md : m2 h.nx = some (w.heap.size, 0) := by rw [← hm2, Loc.put_ne _ _ _ (by omega)]; exact Loc.put_same _ _ _ _
  have ml : m2 (h.nx + 1) = some ((w.heap.push (.deferred (some []))).size, 0) := by rw [← hm2]; exact Loc.put_same _ _ _ _
  have hgv := q0x hP (ha.tm.mono s12.le) g
  rw [hs.ev hx] at hgv
  obtain ⟨f', x, y, e1, e2, e3, e4⟩ := hgv.fn_inv
  cases e2
  refine ⟨(w.heap.push (.deferred (some []))).size, [{ target := .collected w.heap.size, args := #[] }],
    { w with heap := (w.heap.push (.deferred (some []))).push (.loop { state := .ready, pending := none, fn := fnn, tmps := a.tmps, params := ps, assign := asn, body := body, defers := w.heap.size }) },
    { target := .fn (.func f) y, args := x ++ #[.func (.yield (w.heap.push (.deferred (some []))).size) #[] #[]] },
    { w with heap := (w.heap.push (.deferred (some []))).push (.loop { state := .ready, pending := none, fn := fnn, tmps := a.tmps, params := ps, assign := asn, body := body, defers := w.heap.size }) },
    f, (x ++ #[.func (.yield (w.heap.push (.deferred (some []))).size) #[] #[]]) ++ y,
    { w with heap := (w.heap.push (.deferred (some []))).push (.loop { state := .ready, pending := none, fn := fnn, tmps := a.tmps, params := ps, assign := asn, body := body, defers := w.heap.size }) },
    rfl, ?_, fun _ _ => trivial, ?_, nofun, ?_⟩
  · unfold resolve
    simp only [e1]
    simp [Deferred.ofValue, Act.eval]
  · exact q3X c1 (hP.names f fn c1 (by rw [c2]; rfl)) c2 _ _
  · have hF2 : Fre m2 ((h.new (.defd (some []))).new (.loop .ready none s.tm n ps.toList asn body h.nx)) := hF.after s12
    have hargs : LRel P F m2 (first ++ [.fn (.yield (h.nx + 1)) [] []] ++ cap) ((x ++ #[Value.func (.yield (w.heap.push (.deferred (some []))).size) #[] #[]]) ++ y).toList := by
      rw [Array.toList_append, Array.toList_append]
      refine (e3.append (.cons ?_ .nil)).append e4
      exact .fn (a := #[]) (c := #[]) (.yield ml) rfl (fun i x y h _ => by simp at h) rfl (fun i x y h _ => by simp at h)
    refine (hc s.tm hs.tm m2 _ (k - 1) _ s12.rel hargs hF2).mono fun e w3 he => ?_
    obtain ⟨v, h3, ⟨st, pd, tm, n', ps', asn', b', ds', hg3, hst, hQ⟩, hle3, cv, m3, rfl, hs3, _⟩ := he
    have ml3 := hs3.le _ _ ml
    have md3 := hs3.le _ _ md
    obtain ⟨fn3, tmps3, cds3, zd3, g1, g2, g3⟩ := loop_at hs3.rel hg3 ml3
    have hs4 := Step.obj hs3.rel hg3 rfl ml3 (o := .dead) (ob := .loop { state := .exhausted, pending := pd, fn := fn3, tmps := tmps3, params := ps'.toArray, assign := asn', body := b', defers := cds3 }) trivial
    have hall := (s12.trans hs3).trans hs4
    have hA : ARel P F m3 { s with h := h3.put (h.nx + 1) .dead, ds := .coll h.nx :: s.ds } { a with defers := [{ target := .collected w.heap.size, args := #[] }] ++ a.defers } :=
      ⟨(ha.tm.mono s12.le).mono hs3.le, .cons (.coll md3) ((ha.ds.mono s12.le).mono hs3.le)⟩
    have hAt : Atk { s with h := h3.put (h.nx + 1) .dead, ds := .coll h.nx :: s.ds } n none l (h3.put (h.nx + 1) .dead) (.coll h.nx :: ds) := ⟨hs.n, rfl, by show ADef.coll h.nx :: s.ds = _; rw [hs.ds], hs.rd, hs.tm⟩
    have hle := ((HpLe.new h (.defd (some []))).trans (HpLe.new _ _)).trans (hle3.trans (HpLe.put hg3 .dead))
    refine ⟨pd, _, run_endLoop g1 hst, ?_⟩
    cases pd with
    | none => exact ⟨.normal, _, _, _, _, hQ, hAt, hle, m3, .normal, hall, hA⟩
    | some c => cases c with
      | ret => exact wpIn_ret ⟨.ret, _, _, _, _, hQ, hAt, hle, m3, .ret, hall, hA⟩
      | exit id => exact wpIn_exit ⟨.exit id, _, _, _, _, hQ, hAt, hle, m3, .exit id, hall, hA⟩
      | goto t => exact wpIn_goto ⟨.goto t, _, _, _, _, hQ, hAt, hle, m3, .goto t, hall, hA⟩
      | _ => exact False.elim hQ
end Go.Ax
noncomputable section
namespace Go.Ax
variable {P : Program} {F : Nat → Option Obj} {gl : Nat → AV} {eqT : Knob} {C : Ctx} {n : Nat} {rd : Option Nat} {l l' : Kn} {h h1 : Hp} {ds : List ADef} {s : St} {Q Q' : PQ} {all rest : List Oper}
abbrev RK := Option (Kn × Hp × List Oper)
def runG (P : Program) (C : Ctx) (n : Nat) (all : List Oper) : List Oper → Kn → Hp → RK
  | [], l, h => some (l, h, [])
  | o :: r, l, h => match q5x all l o with
    | none => none
    | some b => bif b then
        (if stops o = true then some (l, h, o :: r) else if knowns l o.op.operands.toList = true then (match opA P C nix (knSt l h) o with
        | some (.val v h1) => (match o.dst with
          | some d => if d < n then runG P C n all r ((d, v) :: l) h1 else none
          | none => runG P C n all r l h1)
        | _ => none) else none)
      else (match o.dst with
        | some d => if d < n then runG P C n all r ((d, .tup []) :: l) h else none
        | none => runG P C n all r l h)
def contG (P : Program) (C : Ctx) (n : Nat) (all : List Oper) (b : Bool) (o : Oper) (r : List Oper) (l : Kn) (h : Hp) : RK :=
  bif b then
        (if stops o = true then some (l, h, o :: r) else if knowns l o.op.operands.toList = true then (match opA P C nix (knSt l h) o with
        | some (.val v h1) => (match o.dst with
          | some d => if d < n then runG P C n all r ((d, v) :: l) h1 else none
          | none => runG P C n all r l h1)
        | _ => none) else none)
      else (match o.dst with
        | some d => if d < n then runG P C n all r ((d, .tup []) :: l) h else none
        | none => runG P C n all r l h)
def putG (P : Program) (C : Ctx) (n : Nat) (all r : List Oper) (d : Option Nat) (l : Kn) : Option OpR → RK
  | some (.val v h1) => (match d with
          | some d => if d < n then runG P C n all r ((d, v) :: l) h1 else none
          | none => runG P C n all r l h1)
  | _ => none
theorem runG_nil {l : Kn} {h : Hp} : runG P C n all [] l h = some (l, h, []) := Eq.trans rfl rfl
def wG (P : Program) (C : Ctx) (n : Nat) (all : List Oper) (w : Option Bool) (o : Oper) (r : List Oper) (l : Kn) (h : Hp) : RK :=
 match w with
 | none => none
 | some b => contG P C n all b o r l h
def skipG (P : Program) (C : Ctx) (n : Nat) (all r : List Oper) (d : Option Nat) (l : Kn) (h : Hp) : RK :=
 match d with
 | some d => if d < n then runG P C n all r ((d, .tup []) :: l) h else none
 | none => runG P C n all r l h
theorem runG_cons {o : Oper} {r : List Oper} {l : Kn} {h : Hp} : runG P C n all (o :: r) l h = wG P C n all (q5x all l o) o r l h := by
 show (match q5x all l o with | none => none | some b => _) = _
 cases q5x all l o <;> rfl
theorem wG_some {b : Bool} {o : Oper} {r : List Oper} {l : Kn} {h : Hp} : wG P C n all (some b) o r l h = contG P C n all b o r l h := Eq.trans rfl rfl
theorem contG_true {o : Oper} {r : List Oper} {l : Kn} {h : Hp} : contG P C n all true o r l h = if stops o = true then some (l, h, o :: r) else if knowns l o.op.operands.toList = true then putG P C n all r o.dst l (opA P C nix (knSt l h) o) else none := by
 refine Eq.trans ?_ rfl
 unfold contG putG
 rfl
theorem contG_false {o : Oper} {r : List Oper} {l : Kn} {h : Hp} : contG P C n all false o r l h = skipG P C n all r o.dst l h := Eq.trans rfl rfl
theorem skipG_dst {r : List Oper} {d : Nat} {l : Kn} {h : Hp} : skipG P C n all r (some d) l h = if d < n then runG P C n all r ((d, .tup []) :: l) h else none := Eq.trans rfl rfl
theorem putG_dst {r : List Oper} {d : Nat} {l : Kn} {v : AV} {h : Hp} : putG P C n all r (some d) l (some (.val v h)) = if d < n then runG P C n all r ((d, v) :: l) h else none := Eq.trans rfl rfl
theorem putG_none {r : List Oper} {l : Kn} {v : AV} {h : Hp} : putG P C n all r none l (some (.val v h)) = runG P C n all r l h := Eq.trans rfl rfl
theorem TO.runG (hP : POk P F gl eqT) : ∀ {rest : List Oper} {l : Kn} {h : Hp}, goK P F all n rd ds Q (runG P (Ctx.of P gl eqT) n all rest l h) → TO P F all rest n rd l h ds Q
  | [], l, h, hg => .nil hg
  | o :: r, l, h, hg => by
    have hod : ∀ {v h1}, knowns l o.op.operands.toList = true → opA P (Ctx.of P gl eqT) nix (knSt l h) o = some (.val v h1) → OpT P F o n rd l h ds (fun u g => u = v ∧ g = h1) := fun hk ho => .det hP q0e fun s hs => by
      rw [q6u (s' := knSt l h) hs.h (fun x hx => q6w hs hk x (by simpa using hx))]
      exact ho
    unfold Go.Ax.runG at hg
    split at hg
    · cases hg
    rename_i b hw
    cases b with
    | true =>
      rw [cond_true] at hg
      split at hg
      · exact hg
      split at hg
      case isFalse => cases hg
      rename_i hk
      split at hg
      case h_2 => cases hg
      rename_i v h1 ho
      split at hg
      · rename_i d hd
        split at hg
        case isFalse => cases hg
        rename_i hb
        exact .step hw hd (Nat.ble_eq_true_of_le hb) (hod hk ho) fun v' h' e => by obtain ⟨rfl, rfl⟩ := e; exact .runG hP hg
      · rename_i hd
        exact .step0 hw hd (hod hk ho) fun v' h' e => by obtain ⟨rfl, rfl⟩ := e; exact .runG hP hg
    | false =>
      rw [cond_false] at hg
      split at hg
      · rename_i d hd
        split at hg
        case isFalse => cases hg
        rename_i hb
        exact .left hw hd (Nat.ble_eq_true_of_le hb) (.runG hP hg)
      · rename_i hd
        exact .left0 hw hd (.runG hP hg)
theorem TW.regG (hP : POk P F gl eqT) {id : Nat} {ops : Array Oper} {r : RK} (hr : Go.Ax.runG P (Ctx.of P gl eqT) n ops.toList ops.toList l h = r) (hg : goK P F ops.toList n rd ds Q r) : TW P F (.region id ops false) n rd l h ds Q := by
 subst hr
 exact .region (.runG hP hg)
theorem TO.runsG (hP : POk P F gl eqT) {r : RK} (hr : Go.Ax.runG P (Ctx.of P gl eqT) n all rest l h = r) (hg : goK P F all n rd ds Q r) : TO P F all rest n rd l h ds Q := by
 subst hr
 exact .runG hP hg
theorem q0E {b : Bool} {o : Oper} {r : List Oper} (ht : b = true → goK P F all n rd ds Q (contG P C n all true o r l h)) (hf : b = false → goK P F all n rd ds Q (contG P C n all false o r l h)) : goK P F all n rd ds Q (contG P C n all b o r l h) := by
 cases b with
 | true => exact ht rfl
 | false => exact hf rfl
theorem q2c {x r : RK} (hr : x = r) (hg : goK P F all n rd ds Q r) : goK P F all n rd ds Q x := by subst hr; exact hg
attribute [simp] contG_true contG_false runG_nil runG_cons putG_dst putG_none wG_some skipG_dst
attribute [irreducible] contG runG putG wG skipG
end Go.Ax
noncomputable section
namespace Go.Ax
variable {C : Ctx} {h : Hp}
def q6P : Option TI → Bool
 | some ti => q8I ti.desc
 | none => false
theorem Own.more {es : Nat} {t xt eT : TypeId} {b k : Nat} {v x : AV} {rows rows' : List (List AV)} (ht : slT C t eT es = true) (hxt : q6P (C.ti xt) = true) (ho : Own es eT b h v rows) (hrows : ∀ c ∈ rows, c.length = es) (hl : lenA x = some k) (hk : rows'.length = k)
    (hsrc : q1e h es k x = some rows'.flatten) (hrows' : ∀ c ∈ rows', c.length = es) (hcell : rows'.flatten.all q0P = true) (hlen : rows.length + rows'.length ≤ 1000000) (hb : b ≤ h.nx) :
    ∃ v' h', q0S C t xt v x h = some (v', h') ∧ Own es eT b h' v' (rows ++ rows') ∧ WidB b h h' := by
  unfold slT at ht
  split at ht
  case h_2 => cases ht
  rename_i e size isAgg zero zeroOk bytes comparable zv y hti hy
  simp only [Bool.and_eq_true, decide_eq_true_eq] at ht
  obtain ⟨rfl, hys, hz, hby⟩ := ht
  subst hk
  have hnl : rows'.flatten.length = rows'.length * es := q4L hrows'
  cases hx : C.ti xt with
  | none => rw [hx] at hxt; cases hxt
  | some xi =>
  rw [hx] at hxt
  have hxi : q8I xi.desc = true := hxt
  have key : ∀ s, q0S C t xt s x h = (match s with
        | .nilsl => bif Nat.beq rows'.length 0 then some (.nilsl, h) else
            bif y.zeroOk && Nat.ble rows'.length 1000000 then some (.sl h.nx 0 rows'.length rows'.length y.size false, h.new (.cells e rows'.flatten)) else none
        | .sl r o len cap es' ex =>
          (match h.get r with
           | some (.cells e' cs) =>
             bif Nat.beq es' y.size && (Nat.ble (Nat.add o (Nat.mul len es')) cs.length && Nat.ble (Nat.add len rows'.length) 1000000) then
               bif Nat.ble (Nat.add len rows'.length) cap then
                 (bif Nat.ble (Nat.add (Nat.add o (Nat.mul len es')) rows'.flatten.length) cs.length then
                   some (.sl r o (Nat.add len rows'.length) cap es' ex, h.put r (.cells e' (q1y cs (Nat.add o (Nat.mul len es')) rows'.flatten))) else none)
               else bif !y.zeroOk then none else bif ex then some (.sl h.nx 0 (Nat.add len rows'.length) (Nat.add len rows'.length) es' false, h.new (.cells e ((cs.drop o).take (Nat.mul len es') ++ rows'.flatten)))
               else bif Nat.beq o 0 && Nat.ble (Nat.mul len es') cs.length then
                 (bif Nat.beq e e' then some (.sl h.nx 0 (Nat.add len rows'.length) (Nat.add len rows'.length) es' false, (h.put r .dead).new (.cells e' (cs.take (Nat.mul len es') ++ rows'.flatten))) else none)
               else none
             else none
           | _ => none)
        | _ => none) := fun s => by
    unfold q0S
    rw [hti, hx, hl]
    dsimp only
    rw [hy, hxi]
    dsimp only
    rw [hys, hsrc]
    dsimp only
    rw [hcell]
    have h2 : Nat.ble y.bytes 1000000 = true := Nat.ble_eq_true_of_le hby
    have h3 : Nat.beq rows'.flatten.length (Nat.mul rows'.length es) = true := by rw [hnl]; exact Nat.beq_refl _
    rw [h2, h3]
    cases s <;> rfl
  by_cases h0 : rows'.length = 0
  · obtain rfl := List.eq_nil_of_length_eq_zero h0
    rcases ho with ⟨rfl, rfl⟩ | ⟨h1, r, h2, h3, rfl, h5⟩
    · exact ⟨.nilsl, h, by rw [key]; rfl, .inl ⟨rfl, rfl⟩, .refl _ _⟩
    · have hfl := q4L hrows
      refine ⟨.sl r 0 rows.length rows.length es false, h.put r (.cells e rows.flatten), ?_, .inr ⟨by simpa using h1, r, h2, h3, ?_, ?_⟩, (WidB.refl _ _).put h2 _⟩
      · rw [key]
        simp only [h5]
        simp [beq_dec, q5O, hys, hfl, q1y]
        have := hlen
        simp at this
        simp [this]
      · simp
      · simp [get_put]
  · have hne : rows' ≠ [] := fun e => h0 (by rw [e]; rfl)
    rcases ho with ⟨rfl, rfl⟩ | ⟨h1, r, h2, h3, rfl, h5⟩
    · refine ⟨.sl h.nx 0 rows'.length rows'.length es false, h.new (.cells e rows'.flatten), ?_, .inr ⟨by simpa using hne, h.nx, hb, by simp [nx_new], by simp, ?_⟩, (WidB.refl _ _).new hb _⟩
      · rw [key]
        have h4 : rows'.length ≤ 1000000 := by simpa using hlen
        simp [beq_dec, q5O, h0, hz, hys, h4]
      · simp [get_new]
    · have hfl := q4L hrows
      refine ⟨.sl h.nx 0 (rows ++ rows').length (rows ++ rows').length es false, (h.put r .dead).new (.cells e (rows ++ rows').flatten), ?_, .inr ⟨by simp [h1], h.nx, hb, by simp [nx_new, nx_put], rfl, ?_⟩, ((WidB.refl _ _).put h2 _).new hb _⟩
      · rw [key]
        simp only [h5]
        have h6 : rows.length + rows'.length ≤ 1000000 := hlen
        have h7 : ¬ rows.length + rows'.length ≤ rows.length := by omega
        have h8 : rows.flatten.take (rows.length * es) = rows.flatten := List.take_of_length_le (by omega)
        simp only [beq_dec, q5O, hys, hfl, hz, h8, Nat.add_eq, Nat.mul_eq, decide_eq_false h7, decide_eq_true h6]
        simp
      · simp [get_new, nx_put]
end Go.Ax
noncomputable section
namespace Go.Ax
mutual
def scal : AV → Bool
 | .bool _ => true
 | .int _ _ => true
 | .str _ => true
 | .nilsl => true
 | .nilptr => true
 | .nilif => true
 | .tup l => scals l
 | .agg l => scals l
 | _ => false
def scals : List AV → Bool
 | [] => true
 | v :: l => scal v && scals l
end
theorem scals_at : ∀ {l : List AV} {i : Nat} {x : AV}, scals l = true → l[i]? = some x → scal x = true
  | [], i, x, _, h => by simp at h
  | v :: l, 0, x, h, hx => by
    simp at hx; subst hx
    unfold scals at h
    exact (q0p h).1
  | v :: l, i + 1, x, h, hx => by
    unfold scals at h
    exact scals_at (q0p h).2 (by simpa using hx)
variable {P : Program} {F : Nat → Option Obj}
theorem VRel.scal {m m' : Loc} {x : AV} {v : Value} (h : VRel P F m x v) : Go.Ax.scal x = true → VRel P F m' x v := by
 induction h with
 | bool b => intro _; exact .bool b
 | int k n => intro _; exact .int k n
 | str s => intro _; exact .str s
 | nilptr => intro _; exact .nilptr
 | nilsl => intro _; exact .nilsl
 | nilif => intro _; exact .nilif
 | agg hl _ ih => intro hn; simp only [Go.Ax.scal] at hn; exact .agg hl fun i x y hx hy => ih i x y hx hy (scals_at hn hx)
 | tup hl _ ih => intro hn; simp only [Go.Ax.scal] at hn; exact .tup hl fun i x y hx hy => ih i x y hx hy (scals_at hn hx)
 | _ => intro hn; simp [Go.Ax.scal] at hn
theorem CallsT.of_frz {h : Hp} {v : AV} {f : FuncId} {args fargs : List AV} (hp : q0y P F f fargs v) (hfr : mapO (frzV 20 h) args = some fargs) (hs : scal v = true) : CallsT P F h (fun u g => u = v ∧ g = h) f args := by
 intro m w n cargs hR hA _
 let K : Nat → Prop := fun b => ∃ r o z, h.get r = some o ∧ o.live = true ∧ m r = some (b, z)
 have dK : ∀ b, Decidable (K b) := fun b => Classical.propDecidable _
 let fz2 : Nat → Option Obj := fun b => @ite _ (K b) (dK b) w.heap[b]? (m.fz b)
 have f1 : ∀ b o, m.fz b = some o → fz2 b = some o := fun b o hb => by
  show @ite _ (K b) (dK b) w.heap[b]? (m.fz b) = some o
  split
  ·exact hR.frz b o (.inr hb)
  ·exact hb
 have f2 : ∀ b o, fz2 b = some o → w.heap[b]? = some o := fun b o hb => by
  have hb : @ite _ (K b) (dK b) w.heap[b]? (m.fz b) = some o := hb
  split at hb
  ·exact hb
  ·exact hR.frz b o (.inr hb)
 have hA' : LRel P F ⟨fun _ => none, fz2⟩ fargs cargs.toList := by
  refine q9y (fun x v y hv hy => z1m (fz := fz2) hR f1 (fun r o b z ob hg hl hm hb => ?_) 20 x v y hv hy) hA hfr
  show @ite _ (K b) (dK b) w.heap[b]? (m.fz b) = some ob
  rw [if_pos ⟨r, o, z, hg, hl, hm⟩]; exact hb
 refine (hp ⟨fun _ => none, fz2⟩ w n cargs (fun b o hb => hb.elim (fun hb => hR.frz b o (.inl hb)) (f2 b o)) hA').mono fun e w' he => ?_
 obtain ⟨cv, fz, rfl, hsm, hz, hold, hfz, hle, hnew, hv⟩ := he
 refine ⟨v, h, ⟨rfl, rfl⟩, .refl _, cv, m, rfl, ⟨⟨fun _ _ h => h, fun _ _ h => h⟩, fun r c h1 h2 => ?_, ⟨fun r o b z hg hm => ?_, hR.inj, hR.out, fun b o hb => ?_, hR.wf⟩, hsm, hz, fun b hb _ => hold b hb, Nat.le_refl _, fun r o' c hg hl _ => ⟨o', hg, hl⟩, fun r b z h1 h2 _ => ?_, fun b o hb => .inl hb⟩, hv.scal hs⟩
 ·rw [h1] at h2; cases h2
 ·have h1 := hR.obj r o b z hg hm
  by_cases hl : o.live = true
  ·rw [hold b (hR.lt hg hl hm)]; exact h1
  ·cases o <;> first | trivial
 ·rw [hold b (hR.flt hb)]; exact hR.frz b o hb
 ·rw [h1] at h2; cases h2
variable {gl : Nat → AV} {K : Knob} {C : Ctx} {n : Nat} {rd : Option Nat} {l l' : Kn} {h h1 : Hp} {ds : List ADef} {s : St} {Q Q' : PQ} {all rest : List Oper}
theorem TO.fcall (hP : POk P F gl K) {g : FuncId} {x : Operand} {aas : Array Operand} {ts : Array TypeId} {d : Nat} {ty : TypeId} {pos : String} {aft : Array Edge} {gd : Option (Nat × Bool)} {first cap vs fargs : List AV} {v : AV}
  (hf : IsFn P g) (hc : q0y P F g fargs v) (hw : q5x all l ⟨some d, .call { callee := .value x, args := aas, argTypes := ts }, ty, pos, aft, gd⟩ = some true) (hb : Nat.blt d n = true)
  (hx : evK (Ctx.of P gl K) l x = some (.fn (.func g) first cap)) (ha : evsK (Ctx.of P gl K) l aas.toList = some vs) (he : mapO (frzV 20 h) (first ++ vs ++ cap) = some fargs) (hs : scal v = true)
  (k : TO P F all rest n rd ((d, v) :: l) h ds Q) : TO P F all (⟨some d, .call { callee := .value x, args := aas, argTypes := ts }, ty, pos, aft, gd⟩ :: rest) n rd l h ds Q :=
 .ucall hP hw hb hx ha hf (.of_frz hc he hs) fun _ _ e => by obtain ⟨rfl, rfl⟩ := e; exact k
def FrzL (h : Hp) (args fargs : List AV) : Prop := mapO (frzV 20 h) args = some fargs
theorem FrzL.nil : FrzL h [] [] := rfl
theorem FrzL.cons {x y : AV} {r fr : List AV} (hx : frzV 20 h x = some y) (hr : FrzL h r fr) : FrzL h (x :: r) (y :: fr) := by
 unfold FrzL mapO
 rw [hx]
 dsimp only
 rw [show mapO (frzV 20 h) r = some fr from hr]
theorem FrzL.int {q : IntKind} {i : Int} {r fr : List AV} (hr : FrzL h r fr) : FrzL h (.int q i :: r) (.int q i :: fr) := .cons rfl hr
theorem z1l {k : Nat} : ∀ (l : List Int), mapO (mapO (frzV (k + 1) h)) (l.map fun n => [AV.int .i64 n]) = some (l.map fun n => [AV.int .i64 n])
  | [] => rfl
  | a :: l => by
    simp only [List.map_cons, mapO, z1l l]
    rfl
theorem q7V : ∀ (l : List Int), chunks 1 l.length (l.map (AV.int .i64)) = l.map fun n => [AV.int .i64 n]
  | [] => rfl
  | a :: l => by
    show (List.map (AV.int .i64) (a :: l)).take 1 :: chunks 1 l.length ((List.map (AV.int .i64) (a :: l)).drop 1) = _
    simp [q7V l]
theorem FrzL.ints {q c n : Nat} {e : TypeId} {x : Bool} {l : List Int} {r fr : List AV} (hg : h.get q = some (.cells e (l.map (.int .i64)))) (hn : l.length = n) (hr : FrzL h r fr) : FrzL h (.sl q 0 n c 1 x :: r) (.isl (l.map fun n => [AV.int .i64 n]) :: fr) := .cons (by
 subst hn
 show (match h.get q with
   | some (.cells _ cs) => bif Nat.ble (Nat.add 0 (Nat.mul l.length 1)) cs.length then
     (match mapO (mapO (frzV 19 h)) (chunks 1 l.length (cs.drop 0)) with | some l => some (AV.isl l) | none => none) else none
   | _ => none) = _
 rw [hg]
 dsimp only
 rw [List.drop_zero, q7V, z1l (k := 18)]
 have : Nat.ble (Nat.add 0 (Nat.mul l.length 1)) (l.map (AV.int .i64)).length = true := Nat.ble_eq_true_of_le (by simp)
 rw [this]; rfl) hr
theorem TO.zcall (hP : POk P F gl K) {g : FuncId} {x : Operand} {aas : Array Operand} {ts : Array TypeId} {d : Nat} {ty : TypeId} {pos : String} {aft : Array Edge} {gd : Option (Nat × Bool)} {first cap vs args fargs : List AV} {v : AV}
  (hf : IsFn P g) (hc : q0y P F g fargs v) (hw : q5x all l ⟨some d, .call { callee := .value x, args := aas, argTypes := ts }, ty, pos, aft, gd⟩ = some true) (hb : Nat.blt d n = true)
  (hx : evK (Ctx.of P gl K) l x = some (.fn (.func g) first cap)) (ha : evsK (Ctx.of P gl K) l aas.toList = some vs) (he0 : first ++ vs ++ cap = args) (he : FrzL h args fargs) (hs : scal v = true)
  (k : TO P F all rest n rd ((d, v) :: l) h ds Q) : TO P F all (⟨some d, .call { callee := .value x, args := aas, argTypes := ts }, ty, pos, aft, gd⟩ :: rest) n rd l h ds Q :=
 .fcall hP hf hc hw hb hx ha (by rw [he0]; exact he) hs k
end Go.Ax
noncomputable section
namespace Go.Ax
variable {P : Program} {F : Nat → Option Obj} {gl : Nat → AV} {K : Knob} {C : Ctx} {n : Nat} {rd : Option Nat} {l l' : Kn} {h h1 : Hp} {ds : List ADef} {s : St} {Q Q' : PQ} {all rest : List Oper} {T : List (FuncId × List AV × AV)}
theorem fpOf_congr {s s' : St} {o : Oper} (hev : ∀ x ∈ o.op.operands, s.ev C x = s'.ev C x) : fpOf C s o = fpOf C s' o := by
 unfold fpOf
 cases hop : o.op <;> rw [hop] at hev <;> simp only [Op.operands] at hev
 case slice t x lo hi mx =>
  have h0 : s.ev C x = s'.ev C x := hev x (by simp)
  simp only [h0]
 case call c =>
  have h1 : allA C s c.args.toList = allA C s' c.args.toList := q5s fun x hx => hev x (by
   unfold Call.operands
   cases c.callee <;> simp at hx ⊢ <;> simp [hx])
  simp only [h1]
 all_goals first | (simp at hev; simp only [hev]; done)
theorem ldOf_congr {s s' : St} {o : Oper} (hev : ∀ x ∈ o.op.operands, s.ev C x = s'.ev C x) : ldOf C s o = ldOf C s' o := by
 unfold ldOf
 cases hop : o.op <;> rw [hop] at hev <;> simp only [Op.operands] at hev
 all_goals first | (simp at hev; simp only [hev]; done)
def relo (h h1 : Hp) : Hp := { h1 with lo := bif Nat.ble h.lo h1.lo then h.lo else h1.lo }
def Hp.up (h : Hp) : Hp := { h with lo := h.nx }
def oneD (P : Program) (C : Ctx) (l : Kn) (h : Hp) (o : Oper) : Option OpR :=
  match callOf o with
  | some (x, aas) => (match evK C l x, evsK C l aas with
    | some (.fn (.func g) first cap), some vs => (match C.ext g (first ++ vs ++ cap), C.fn.get g, C.orc g (first ++ vs ++ cap) with
      | none, some fn, some v => if fn.body.isSome = true then some (.val v h.up) else none
      | none, some fn, none => if fn.body.isSome = true then (C.prim g (first ++ vs ++ cap) h.up).map (fun x => .val x.1 x.2) else none
      | _, _, _ => none)
    | _, _ => none)
  | none => if knowns l o.op.operands.toList = true then opA P C nix (knSt l h.up) o else none
def runD (P : Program) (C : Ctx) (n : Nat) (all : List Oper) (ms : List Nat) : List Oper → Nat → List FP → Kn → Hp → Option (Kn × Hp)
  | [], _, _, l, h => some (l, h)
  | o :: r, i, fps, l, h => match q5x all l o with
    | none => none
    | some false => (match o.dst with
      | some d => if d < n then runD P C n all ms r (Nat.succ i) fps ((d, .tup []) :: l) h else none
      | none => runD P C n all ms r (Nat.succ i) fps l h)
    | some true => if knowns l o.op.operands.toList = true then (match oneD P C l h o with
      | some (.val v h1) => (match q0T ms (fpAt C (knSt l h) o i h1) fps with
        | some fps' => (match o.dst with
          | some d => if d < n then runD P C n all ms r (Nat.succ i) fps' ((d, v) :: l) (relo h h1) else none
          | none => runD P C n all ms r (Nat.succ i) fps' l (relo h h1))
        | none => none)
      | _ => none) else none
theorem oneD_op {o : Oper} {v : AV} (hs : Atk s n rd l h ds) (ho : oneD P C l h o = some (.val v h1)) : opA P C nix { s with h := { s.h with lo := s.h.nx } } o = some (.val v h1) := by
 have hh := hs.h
 unfold oneD at ho
 split at ho
 ·rename_i x aas hc
  split at ho
  case h_2 => cases ho
  rename_i g first cap vs hx has
  have hs' : Atk { s with h := { s.h with lo := s.h.nx } } n rd l h.up ds := ⟨hs.n, by rw [hh]; rfl, hs.ds, hs.rd, hs.tm⟩
  unfold callOf at hc
  split at hc
  case h_2 => cases hc
  rename_i c' hop
  split at hc
  case h_2 => cases hc
  rename_i f' hcal
  cases hc
  split at ho
  case h_3 => cases ho
  ·rename_i fn v' hext hfn horc
   split at ho
   case isFalse => cases ho
   rename_i hbody
   cases ho
   obtain ⟨c, hb⟩ := Option.isSome_iff_exists.1 hbody
   unfold opA
   rw [hop]
   dsimp only
   rw [hcal]
   dsimp only
   rw [hs'.ev hx, hs'.evs has]
   unfold applyF
   dsimp only
   rw [hext]
   dsimp only
   unfold callF
   rw [hfn]; dsimp only; rw [hb]; dsimp only; rw [horc, hh]
   rfl
  ·rename_i fn hext hfn horc
   split at ho
   case isFalse => cases ho
   rename_i hbody
   obtain ⟨c, hb⟩ := Option.isSome_iff_exists.1 hbody
   obtain ⟨y, hy, he⟩ := Option.map_eq_some_iff.1 ho
   cases he
   have hup : ({ s.h with lo := s.h.nx } : Hp) = h.up := by rw [hh]; rfl
   unfold opA
   rw [hop]
   dsimp only
   rw [hcal]
   dsimp only
   rw [hs'.ev hx, hs'.evs has]
   unfold applyF
   dsimp only
   rw [hext]
   dsimp only
   unfold callF
   rw [hfn]; dsimp only; rw [hb]; dsimp only; rw [horc, hup, hy]
 ·split at ho
  case isFalse => cases ho
  rename_i hk
  have hs' : Atk { s with h := { s.h with lo := s.h.nx } } n rd l h.up ds := ⟨hs.n, by rw [hh]; rfl, hs.ds, hs.rd, hs.tm⟩
  rw [q6u (s' := knSt l h.up) hs'.h (fun x hx => q6w hs' hk x (by simpa using hx))]
  exact ho
theorem q8R {ms : List Nat} : ∀ (rest : List Oper) (i : Nat) (fps : List FP) (l : Kn) (h : Hp) (s : St) (l' : Kn) (h' : Hp), Atk s n rd l h ds → runD P C n all ms rest i fps l h = some (l', h') →
    ∃ s1, q5N P C nix all ms rest i fps s = some (.normal, s1) ∧ Atk s1 n rd l' h' ds
  | [], i, fps, l, h, s, l', h', hs, hr => by cases hr; exact ⟨s, rfl, hs⟩
  | o :: r, i, fps, l, h, s, l', h', hs, hr => by
    have hh := hs.h
    unfold runD at hr
    unfold q5N
    split at hr
    · cases hr
    · rename_i hw
      rw [hs.want hw]
      dsimp only
      split at hr
      · rename_i d hd
        split at hr
        case isFalse => cases hr
        rename_i hdn
        obtain ⟨s2, hp, hs2⟩ := hs.put (d := d) (Nat.ble_eq_true_of_le hdn) (.tup []) h
        rw [hd, hh, hp]
        exact q8R r _ fps _ _ s2 l' h' hs2 hr
      · rename_i hd
        obtain ⟨s2, hp, hs2⟩ := hs.put0 (.tup []) h
        rw [hd, hh, hp]
        exact q8R r _ fps _ _ s2 l' h' hs2 hr
    · rename_i hw
      rw [hs.want hw]
      dsimp only
      split at hr
      case isFalse => cases hr
      rename_i hk
      split at hr
      case h_2 => cases hr
      rename_i v h1 ho
      rw [oneD_op hs ho]
      dsimp only
      have hev : ∀ x ∈ o.op.operands, s.ev C x = (knSt l h).ev C x := fun x hx => q6w hs hk x (by simpa using hx)
      have hfp : fpAt C s o i h1 = fpAt C (knSt l h) o i h1 := by
        unfold fpAt
        rw [fpOf_congr hev, ldOf_congr hev, hh]
        rfl
      rw [hfp]
      split at hr
      case h_2 => cases hr
      rename_i fps' hf
      rw [hf]
      dsimp only
      have he : ({ nx := h1.nx, m := h1.m, lo := bif Nat.ble s.h.lo h1.lo then s.h.lo else h1.lo } : Hp) = relo h h1 := by rw [hh]; rfl
      split at hr
      · rename_i d hd
        split at hr
        case isFalse => cases hr
        rename_i hdn
        obtain ⟨s2, hp, hs2⟩ := hs.put (d := d) (Nat.ble_eq_true_of_le hdn) v (relo h h1)
        rw [hd, he, hp]
        exact q8R r _ fps' _ _ s2 l' h' hs2 hr
      · rename_i hd
        obtain ⟨s2, hp, hs2⟩ := hs.put0 v (relo h h1)
        rw [hd, he, hp]
        exact q8R r _ fps' _ _ s2 l' h' hs2 hr
theorem TW.drawD (hP : POk P F gl K) {id : Nat} {ops : Array Oper} (T : List (FuncId × List AV × AV)) (hT : ∀ e ∈ T, q0y P F e.1 e.2.1 e.2.2) (ms : List Nat) (hms : masks [] ops.toList = ms) (hok : q7o ops.toList ops.toList ms 0 [] = true) {r : Option (Kn × Hp)}
    (hr : runD P (Ctx.of P gl (K.tell T)) n ops.toList ms ops.toList 0 [] l h.z = r) (hg : match r with | some (l', h') => Q .normal l' h' ds | none => False) : TW P F (.region id ops true) n rd l h ds Q := by
  refine TW.z fun s hs m a w fe k hrel ha hf hF => ?_
  cases r with
  | none => exact False.elim hg
  | some x =>
    obtain ⟨l', h'⟩ := x
    subst hms
    have hP' := pok_tell hP hT
    obtain ⟨s1, h1, h2⟩ := q8R (ms := masks [] ops.toList) ops.toList 0 [] l h.z s l' h' hs hr
    have hd : drawF P (Ctx.of P gl (K.tell T)) nix ops.toList (masks [] ops.toList) s = some (.normal, s1) := by
      unfold drawF
      rw [hok]; exact h1
    obtain ⟨g1, g2, g3, g4⟩ := draw_rel hP' nix q0e ops s _ s1 hd
    have hh := hs.h
    have hrd := hs.rd
    rw [hh, hrd] at g4
    refine wpIn_mono (g4 m a w fe k id hrel ha hf fun r h3 _ => hF r h3) fun x a' w' hp => ?_
    exact ⟨_, s1, l', h', ds, hg, h2, by rw [← h2.h]; rw [hh] at g1; exact g1, hp⟩
theorem q2K {h : Hp} {r : Nat} : h.up.get r = h.get r := rfl
theorem q2J {h : Hp} : h.up.nx = h.nx := rfl
theorem up_lo {h : Hp} : h.up.lo = h.nx := rfl
theorem relo_z {h h1 : Hp} : relo h.z h1 = h1.z := by
 unfold relo Hp.z
 rfl
attribute [simp] q2K q2J up_lo relo_z
attribute [irreducible] Hp.up relo
end Go.Ax
noncomputable section
namespace Go.Ax
variable {P : Program} {F : Nat → Option Obj} {gl : Nat → AV} {K : Knob} {C : Ctx} {n : Nat} {rd : Option Nat} {l l' : Kn} {h h1 : Hp} {ds : List ADef} {s : St} {Q Q' : PQ} {all rest : List Oper} {T : List (FuncId × List AV × AV)}
def valQ (P : Program) (C : Ctx) (l : Kn) (h : Hp) (o : Oper) : Option AV :=
  match callOf o with
  | some (x, aas) => (match evK C l x, evsK C l aas with
    | some (.fn (.func g) first cap), some vs => (match C.ext g (first ++ vs ++ cap), C.fn.get g, C.orc g (first ++ vs ++ cap) with
      | none, some fn, some v => if fn.body.isSome = true then some v else none
      | _, _, _ => none)
    | _, _ => none)
  | none => if q8N o = true then (if knowns l o.op.operands.toList = true then (match opA P C nix (knSt l h) o with
      | some (.val v _) => some v
      | _ => none) else none) else none
def putQ (P : Program) (C : Ctx) (n : Nat) (all r : List Oper) (d : Option Nat) (l : Kn) (h : Hp) : Option AV → Option Kn
  | some v => (match d with
    | some d => if d < n then runQ P C n all r ((d, v) :: l) h else none
    | none => runQ P C n all r l h)
  | none => none
def contQ (P : Program) (C : Ctx) (n : Nat) (all : List Oper) (b : Bool) (o : Oper) (r : List Oper) (l : Kn) (h : Hp) : Option Kn :=
 bif b then putQ P C n all r o.dst l h (valQ P C l h o) else putQ P C n all r o.dst l h (some (.tup []))
def wQ (P : Program) (C : Ctx) (n : Nat) (all : List Oper) (w : Option Bool) (o : Oper) (r : List Oper) (l : Kn) (h : Hp) : Option Kn :=
 match w with
 | none => none
 | some b => contQ P C n all b o r l h
theorem runQ_nil : runQ P C n all [] l h = some l := Eq.trans rfl rfl
theorem runQ_cons {o : Oper} {r : List Oper} : runQ P C n all (o :: r) l h = wQ P C n all (q5x all l o) o r l h := by
  rw [runQ]
  unfold wQ
  cases hw : q5x all l o with
  | none => rfl
  | some b =>
    cases b with
    | false => rfl
    | true =>
      show _ = putQ P C n all r o.dst l h (valQ P C l h o)
      unfold valQ
      dsimp only
      cases hc : callOf o with
      | some x =>
        obtain ⟨x, aas⟩ := x
        dsimp only
        generalize evK C l x = a
        generalize evsK C l aas = b
        rcases a with _ | a
        · rfl
        rcases b with _ | b
        · cases a <;> first | rfl | (rename_i f _ _; cases f <;> rfl)
        cases a <;> try rfl
        rename_i f fi ca
        cases f <;> try rfl
        rename_i g
        dsimp only
        generalize C.ext g (fi ++ b ++ ca) = a1
        generalize C.fn.get g = a2
        generalize C.orc g (fi ++ b ++ ca) = a3
        rcases a1 with _ | a1 <;> rcases a2 with _ | a2 <;> rcases a3 with _ | a3 <;> try rfl
        dsimp only
        split <;> rfl
      | none =>
        dsimp only
        split
        · split
          · generalize opA P C nix (knSt l h) o = a
            rcases a with _ | a
            · rfl
            cases a <;> rfl
          · rfl
        · rfl
theorem wQ_some {b : Bool} {o : Oper} {r : List Oper} : wQ P C n all (some b) o r l h = contQ P C n all b o r l h := Eq.trans rfl rfl
theorem contQ_true {o : Oper} {r : List Oper} : contQ P C n all true o r l h = putQ P C n all r o.dst l h (valQ P C l h o) := Eq.trans rfl rfl
theorem contQ_false {o : Oper} {r : List Oper} : contQ P C n all false o r l h = putQ P C n all r o.dst l h (some (.tup [])) := Eq.trans rfl rfl
theorem putQ_dst {r : List Oper} {d : Nat} {v : AV} : putQ P C n all r (some d) l h (some v) = if d < n then runQ P C n all r ((d, v) :: l) h else none := Eq.trans rfl rfl
def okQ (Q : PQ) (h : Hp) (ds : List ADef) : Option Kn → Prop
 | some l' => Q .normal l' h ds
 | none => False
theorem TW.drawG (hP : POk P F gl K) {id : Nat} {ops : Array Oper} (T : List (FuncId × List AV × AV)) (hT : ∀ e ∈ T, q0y P F e.1 e.2.1 e.2.2) (hok : q7o ops.toList ops.toList (masks [] ops.toList) 0 [] = true) {r : Option Kn}
  (hr : runQ P (Ctx.of P gl (K.tell T)) n ops.toList ops.toList l h.z = r) (hg : okQ Q h.z ds r) : TW P F (.region id ops true) n rd l h ds Q :=
 TW.drawQ hP T hT hok hr (by cases r <;> exact hg)
theorem q2V {b : Bool} {o : Oper} {r : List Oper} {g : Hp} (ht : b = true → okQ Q g ds (contQ P C n all true o r l h)) (hf : b = false → okQ Q g ds (contQ P C n all false o r l h)) : okQ Q g ds (contQ P C n all b o r l h) := by
 cases b with
 | true => exact ht rfl
 | false => exact hf rfl
theorem q8q {x r : Option Kn} {g : Hp} (hr : x = r) (hg : okQ Q g ds r) : okQ Q g ds x := by subst hr; exact hg
def dFp (P : Program) (C : Ctx) (n : Nat) (all : List Oper) (ms : List Nat) (r : List Oper) (i : Nat) (d : Option Nat) (l : Kn) (v : AV) (h : Hp) : Option (List FP) → Option (Kn × Hp)
  | some fps' => (match d with
    | some d => if d < n then runD P C n all ms r (Nat.succ i) fps' ((d, v) :: l) h else none
    | none => runD P C n all ms r (Nat.succ i) fps' l h)
  | none => none
def dPut (P : Program) (C : Ctx) (n : Nat) (all : List Oper) (ms : List Nat) (o : Oper) (r : List Oper) (i : Nat) (fps : List FP) (l : Kn) (h : Hp) : Option OpR → Option (Kn × Hp)
 | some (.val v h1) => dFp P C n all ms r i o.dst l v (relo h h1) (q0T ms (fpAt C (knSt l h) o i h1) fps)
 | _ => none
def dCont (P : Program) (C : Ctx) (n : Nat) (all : List Oper) (ms : List Nat) (b : Bool) (o : Oper) (r : List Oper) (i : Nat) (fps : List FP) (l : Kn) (h : Hp) : Option (Kn × Hp) :=
 bif b then (if knowns l o.op.operands.toList = true then dPut P C n all ms o r i fps l h (oneD P C l h o) else none) else dFp P C n all ms r i o.dst l (.tup []) h (some fps)
def dW (P : Program) (C : Ctx) (n : Nat) (all : List Oper) (ms : List Nat) (w : Option Bool) (o : Oper) (r : List Oper) (i : Nat) (fps : List FP) (l : Kn) (h : Hp) : Option (Kn × Hp) :=
 match w with
 | none => none
 | some b => dCont P C n all ms b o r i fps l h
variable {ms : List Nat} {fps : List FP} {i : Nat}
theorem runD_nil : runD P C n all ms [] i fps l h = some (l, h) := Eq.trans rfl rfl
theorem runD_cons {o : Oper} {r : List Oper} : runD P C n all ms (o :: r) i fps l h = dW P C n all ms (q5x all l o) o r i fps l h := by
  rw [runD]
  unfold dW
  cases hw : q5x all l o with
  | none => rfl
  | some b =>
    cases b with
    | false =>
      show _ = dFp P C n all ms r i o.dst l (.tup []) h (some fps)
      unfold dFp
      dsimp only
      cases o.dst <;> rfl
    | true =>
      show _ = (if knowns l o.op.operands.toList = true then dPut P C n all ms o r i fps l h (oneD P C l h o) else none)
      dsimp only
      split
      · generalize oneD P C l h o = a
        rcases a with _ | a
        · rfl
        cases a <;> rfl
      · rfl
theorem dW_some {b : Bool} {o : Oper} {r : List Oper} : dW P C n all ms (some b) o r i fps l h = dCont P C n all ms b o r i fps l h := Eq.trans rfl rfl
theorem dCont_true {o : Oper} {r : List Oper} : dCont P C n all ms true o r i fps l h = if knowns l o.op.operands.toList = true then dPut P C n all ms o r i fps l h (oneD P C l h o) else none := Eq.trans rfl rfl
theorem dPut_val {o : Oper} {r : List Oper} {v : AV} : dPut P C n all ms o r i fps l h (some (.val v h1)) = dFp P C n all ms r i o.dst l v (relo h h1) (q0T ms (fpAt C (knSt l h) o i h1) fps) := Eq.trans rfl rfl
theorem dFp_dst {r : List Oper} {d : Nat} {v : AV} {fps' : List FP} : dFp P C n all ms r i (some d) l v h (some fps') = if d < n then runD P C n all ms r (Nat.succ i) fps' ((d, v) :: l) h else none := Eq.trans rfl rfl
theorem dFp_none {r : List Oper} {v : AV} {fps' : List FP} : dFp P C n all ms r i none l v h (some fps') = runD P C n all ms r (Nat.succ i) fps' l h := Eq.trans rfl rfl
def okD (Q : PQ) (ds : List ADef) : Option (Kn × Hp) → Prop
 | some x => Q .normal x.1 x.2 ds
 | none => False
theorem TW.drawH (hP : POk P F gl K) {id : Nat} {ops : Array Oper} (T : List (FuncId × List AV × AV)) (hT : ∀ e ∈ T, q0y P F e.1 e.2.1 e.2.2) (ms : List Nat) (hms : masks [] ops.toList = ms) (hok : q7o ops.toList ops.toList ms 0 [] = true) {r : Option (Kn × Hp)}
  (hr : runD P (Ctx.of P gl (K.tell T)) n ops.toList ms ops.toList 0 [] l h.z = r) (hg : okD Q ds r) : TW P F (.region id ops true) n rd l h ds Q :=
 TW.drawD hP T hT ms hms hok hr (by cases r <;> exact hg)
theorem q1A {b : Bool} {o : Oper} {r : List Oper} (ht : b = true → okD Q ds (dCont P C n all ms true o r i fps l h)) (hf : b = false → okD Q ds (dCont P C n all ms false o r i fps l h)) : okD Q ds (dCont P C n all ms b o r i fps l h) := by
 cases b with
 | true => exact ht rfl
 | false => exact hf rfl
theorem q4H {x r : Option (Kn × Hp)} (hr : x = r) (hg : okD Q ds r) : okD Q ds x := by subst hr; exact hg
attribute [simp] runQ_nil runQ_cons wQ_some contQ_true contQ_false putQ_dst valQ callOf q8N runD_nil runD_cons dW_some dCont_true dPut_val dFp_dst dFp_none
attribute [irreducible] contQ putQ wQ dCont dPut dFp dW
end Go.Ax
noncomputable section
namespace Go.Ax
inductive Sl (α : Type) where
 | nil
 | mk (l : List α)
def Sl.list {α : Type} : Sl α → List α
 | .nil => []
 | .mk l => l
def isSlT : Option TI → Bool
 | some ti => (match ti.desc with | .slice _ => true | _ => false)
 | none => false
def Sl.av {α : Type} (e : α → List AV) : Sl α → AV
 | .nil => .nilsl
 | .mk l => .isl (l.map e)
def i64 (n : Int) : AV := .int .i64 n
def cI (n : Int) : List AV := [.int .i64 n]
structure LEnd where
 kind : Int
 a : Int
 to : Int
 els : Int
structure LIns where
 op : Int
 type : Int
 a : Int
 b : Int
 n : Int
 args : Sl Int
 frm : Sl Int
structure LBlock where
 ins : Sl LIns
 ed : LEnd
structure LFunc where
 sig : Int
 blocks : Sl LBlock
structure LType where
 kind : Int
 elem : Int
 many : Int
 parts : Sl Int
structure LProg where
 types : Sl LType
 funcs : Sl LFunc
def LEnd.cells (x : LEnd) : List AV := [.int .u8 x.kind, .int .i64 x.a, .int .i64 x.to, .int .i64 x.els]
def LIns.cells (x : LIns) : List AV := [.int .u8 x.op, .int .i64 x.type, .int .i64 x.a, .int .i64 x.b, .int .i64 x.n, x.args.av cI, x.frm.av cI]
def LBlock.cells (x : LBlock) : List AV := x.ins.av LIns.cells :: x.ed.cells
def LFunc.cells (x : LFunc) : List AV := [.int .i64 x.sig, x.blocks.av LBlock.cells]
theorem lenA_av {α : Type} {e : α → List AV} (x : Sl α) : lenA (x.av e) = some x.list.length := by cases x <;> simp [Sl.av, Sl.list, lenA]
theorem q0z {α : Type} {e : α → List AV} {x : Sl α} (h : 0 < x.list.length) : x.av e = .isl (x.list.map e) := by
 cases x with
 | nil => simp [Sl.list] at h
 | mk l => rfl
theorem len_av {α : Type} {e : α → List AV} {C : Ctx} {t : TypeId} {h : Hp} (x : Sl α) (ht : isSlT (C.ti t) = true) : q3k C t (x.av e) h = some (.int .i64 x.list.length) := by
  unfold q3k
  cases hx : C.ti t with
  | none => rw [hx] at ht; cases ht
  | some ti =>
    rw [hx] at ht
    unfold isSlT at ht
    dsimp only at ht ⊢
    split at ht
    · rename_i e' hd
      rw [hd]
      have := lenA_av (e := e) x
      cases x <;> (dsimp only [Sl.av] at this ⊢; rw [this]; rfl)
    · cases ht
theorem len_av2 {α : Type} {e : α → List AV} {C : Ctx} {t : TypeId} {h : Hp} (x : Sl α) : q3k C t (x.av e) h = if isSlT (C.ti t) = true then some (.int .i64 x.list.length) else q3k C t (x.av e) h := by
 split
 ·rename_i ht; exact len_av x ht
 ·rfl
theorem q3F {C : Ctx} {t : TypeId} {h : Hp} {v : AV} {k : Nat} (hv : lenA v = some k) (hs : ∀ s, v ≠ .str s) : q3k C t v h = if isSlT (C.ti t) = true then some (.int .i64 k) else q3k C t v h := by
  split
  · rename_i ht
    unfold q3k
    cases hx : C.ti t with
    | none => rw [hx] at ht; cases ht
    | some ti =>
      rw [hx] at ht
      unfold isSlT at ht
      dsimp only at ht ⊢
      split at ht
      · rename_i e' hd
        rw [hd]
        cases v <;> first | exact absurd rfl (hs _) | (dsimp only; rw [hv]; rfl)
      · cases ht
  · rfl
theorem len_isl {C : Ctx} {t : TypeId} {h : Hp} {xs : List (List AV)} : q3k C t (.isl xs) h = if isSlT (C.ti t) = true then some (.int .i64 xs.length) else q3k C t (.isl xs) h := q3F rfl nofun
theorem len_nilsl {C : Ctx} {t : TypeId} {h : Hp} : q3k C t .nilsl h = if isSlT (C.ti t) = true then some (.int .i64 (0 : Nat)) else q3k C t .nilsl h := q3F rfl nofun
attribute [simp] len_isl len_nilsl
theorem q8U {α : Type} {e : α → List AV} (x : Sl α) : q0P (x.av e) = true := by cases x <;> rfl
theorem q7y {α : Type} {e : α → List AV} (x : Sl α) : cellsOf (x.av e) = some [x.av e] := by cases x <;> rfl
attribute [simp] q8U q7y LFunc.cells LBlock.cells LEnd.cells LIns.cells len_av2 isSlT
theorem q6L {P : Program} {gl : Nat → AV} {K : Knob} {t : TypeId} (ht : Nat.blt t P.types.size = true) : (Ctx.of P gl K).ti t = mkTI P t := by
 unfold Ctx.ti
 simp only [Ctx.of]
 rw [z1g, if_pos (show t < P.types.size from Nat.le_of_ble_eq_true ht)]
 cases mkTI P t <;> rfl
def LType.cells (x : LType) : List AV := [.int .u8 x.kind, .int .i64 x.elem, .int .i64 x.many, x.parts.av cI]
def LProg.cells (x : LProg) : List AV := [x.types.av LType.cells, x.funcs.av LFunc.cells]
attribute [simp] LType.cells LProg.cells cI
theorem q2F {α : Type} {e : α → List AV} (he : ∀ x, q1v (e x) = true) (x : Sl α) : q4G (x.av e) = true := by
  cases x with
  | nil => rfl
  | mk l =>
    show q6s (l.map e) = true
    induction l with
    | nil => rfl
    | cons a l ih => show (q1v (e a) && q6s (l.map e)) = true; rw [he a, ih]; rfl
theorem nr_nil : q1v [] = true := rfl
theorem nr_cons {v : AV} {l : List AV} : q1v (v :: l) = (q4G v && q1v l) := rfl
theorem nr_int {k : IntKind} {n : Int} : q4G (.int k n) = true := rfl
theorem nr_bool {b : Bool} : q4G (.bool b) = true := rfl
theorem nr_agg {l : List AV} : q4G (.agg l) = q1v l := rfl
theorem nr_ints (x : Sl Int) : q4G (x.av cI) = true := q2F (fun _ => rfl) x
theorem nr_ins (x : LIns) : q1v x.cells = true := by simp [LIns.cells, nr_cons, nr_int, nr_ints, nr_nil]
theorem nr_inss (x : Sl LIns) : q4G (x.av LIns.cells) = true := q2F nr_ins x
theorem q9x (x : LBlock) : q1v x.cells = true := by simp [LBlock.cells, LEnd.cells, nr_cons, nr_int, nr_inss, nr_nil]
theorem nr_blocks (x : Sl LBlock) : q4G (x.av LBlock.cells) = true := q2F q9x x
theorem z0k (x : LFunc) : q1v x.cells = true := by simp [LFunc.cells, nr_cons, nr_int, nr_blocks, nr_nil]
theorem nr_funcs (x : Sl LFunc) : q4G (x.av LFunc.cells) = true := q2F z0k x
theorem q7d (x : LType) : q1v x.cells = true := by simp [LType.cells, nr_cons, nr_int, nr_ints, nr_nil]
theorem nr_types (x : Sl LType) : q4G (x.av LType.cells) = true := q2F q7d x
attribute [simp] nr_nil nr_cons nr_int nr_bool nr_agg nr_ints nr_inss nr_blocks nr_funcs nr_types
theorem q5K {P : Program} {gl : Nat → AV} {K : Knob} {f : FuncId} : (Ctx.of P gl K).fn.get f = P.funcs[f]? := by
 simp only [Ctx.of]
 rw [z1g]
 split
 ·cases P.funcs[f]? <;> rfl
 ·rename_i h
  rw [Tr.get_e, eq_comm, Array.getElem?_eq_none]
  omega
theorem orc_of {P : Program} {gl : Nat → AV} {K : Knob} : (Ctx.of P gl K).orc = K.orc := rfl
theorem ext_of {P : Program} {gl : Nat → AV} {K : Knob} : (Ctx.of P gl K).ext = K.ext := rfl
theorem tell_ext {K : Knob} {T : List (FuncId × List AV × AV)} : (K.tell T).ext = K.ext := rfl
theorem tell_orc {K : Knob} {T : List (FuncId × List AV × AV)} : (K.tell T).orc = orcT K T := rfl
attribute [simp] orc_of ext_of tell_ext tell_orc orcT
theorem rdI_av (h : Hp) (x : Sl Int) : RdI h (x.av cI) x.list := by
 cases x with
 | nil => exact .inl ⟨rfl, rfl⟩
 | mk l => exact .inr (.inl rfl)
end Go.Ax
noncomputable section
namespace Go.Ax
open Go.Proofs
abbrev q0u : TypeId := 26
abbrev q0C : TypeId := 3
abbrev q7e : TypeId := 22
abbrev q1W : TypeId := 97
abbrev q0k : TypeId := 25
abbrev q6o : TypeId := 47
abbrev q7O : TypeId := 23
abbrev q0R : TypeId := 43
abbrev q1D : TypeId := 41
abbrev q0s : TypeId := 49
abbrev q3V : TypeId := 45
abbrev q0M : TypeId := 52
abbrev q5i : FuncId := 3
theorem q8o : Tryz.prog.funcs[q5i]? = some Tryz.f3 := Tryz.func3
abbrev q4l : FuncId := 5
theorem z0Q : Tryz.prog.funcs[q4l]? = some Tryz.f5 := Tryz.func5
theorem q2T : IsFn Tryz.prog q4l := ⟨_, _, Tryz.func5, rfl⟩
abbrev q4X : FuncId := 6
theorem E_fescueref06_Twin : Tryz.prog.funcs[q4X]? = some Tryz.f6 := Tryz.func6
theorem q5e : IsFn Tryz.prog q4X := ⟨_, _, Tryz.func6, rfl⟩
abbrev q3o : FuncId := 7
theorem E_tidy_Drop : Tryz.prog.funcs[q3o]? = some Tryz.f7 := Tryz.func7
theorem G_tidy_Drop {gl : Nat → AV} {K : Knob} : (Ctx.of Tryz.prog gl K).fn.get 7 = some Tryz.f7 := q5K.trans Tryz.func7
theorem B_tidy_Drop : Tryz.f7.body.isSome = true := rfl
abbrev q2z : FuncId := 8
theorem E_fescueref27_Drop : Tryz.prog.funcs[q2z]? = some Tryz.f8 := Tryz.func8
theorem q6Z {gl : Nat → AV} {K : Knob} : (Ctx.of Tryz.prog gl K).fn.get 8 = some Tryz.f8 := q5K.trans Tryz.func8
theorem q7b : Tryz.f8.body.isSome = true := rfl
abbrev q3n : FuncId := 9
theorem E_tidy_Swap : Tryz.prog.funcs[q3n]? = some Tryz.f9 := Tryz.func9
theorem G_tidy_Swap {gl : Nat → AV} {K : Knob} : (Ctx.of Tryz.prog gl K).fn.get 9 = some Tryz.f9 := q5K.trans Tryz.func9
theorem B_tidy_Swap : Tryz.f9.body.isSome = true := rfl
abbrev q2y : FuncId := 10
theorem E_fescueref27_Swap : Tryz.prog.funcs[q2y]? = some Tryz.f10 := Tryz.func10
theorem q6Y {gl : Nat → AV} {K : Knob} : (Ctx.of Tryz.prog gl K).fn.get 10 = some Tryz.f10 := q5K.trans Tryz.func10
theorem q7a : Tryz.f10.body.isSome = true := rfl
abbrev q4Y : FuncId := 11
theorem E_fescueref06_Same : Tryz.prog.funcs[q4Y]? = some Tryz.f11 := Tryz.func11
theorem q5f : IsFn Tryz.prog q4Y := ⟨_, _, Tryz.func11, rfl⟩
abbrev q4s : FuncId := 12
theorem z0Y : Tryz.prog.funcs[q4s]? = some Tryz.f12 := Tryz.func12
theorem q6K : IsFn Tryz.prog q4s := ⟨_, _, Tryz.func12, rfl⟩
abbrev q3c : FuncId := 13
theorem q8E : Tryz.prog.funcs[q3c]? = some Tryz.f13 := Tryz.func13
theorem q3d : IsFn Tryz.prog q3c := ⟨_, _, Tryz.func13, rfl⟩
abbrev q2w : FuncId := 16
theorem E_shape_Ends : Tryz.prog.funcs[q2w]? = some Tryz.f16 := Tryz.func16
theorem I_shape_Ends : IsFn Tryz.prog q2w := ⟨_, _, Tryz.func16, rfl⟩
theorem G_shape_Ends {gl : Nat → AV} {K : Knob} : (Ctx.of Tryz.prog gl K).fn.get 16 = some Tryz.f16 := q5K.trans Tryz.func16
theorem B_shape_Ends : Tryz.f16.body.isSome = true := rfl
abbrev q2e : FuncId := 17
theorem E_shape_Uses : Tryz.prog.funcs[q2e]? = some Tryz.f17 := Tryz.func17
theorem I_shape_Uses : IsFn Tryz.prog q2e := ⟨_, _, Tryz.func17, rfl⟩
theorem G_shape_Uses {gl : Nat → AV} {K : Knob} : (Ctx.of Tryz.prog gl K).fn.get 17 = some Tryz.f17 := q5K.trans Tryz.func17
theorem B_shape_Uses : Tryz.f17.body.isSome = true := rfl
abbrev q8h : FuncId := 18
theorem E_shape_Check : Tryz.prog.funcs[q8h]? = some Tryz.f18 := Tryz.func18
theorem q8j : IsFn Tryz.prog q8h := ⟨_, _, Tryz.func18, rfl⟩
abbrev q4q : FuncId := 19
theorem z0W : Tryz.prog.funcs[q4q]? = some Tryz.f19 := Tryz.func19
theorem q6I : IsFn Tryz.prog q4q := ⟨_, _, Tryz.func19, rfl⟩
abbrev q5c : FuncId := 20
theorem E_fescueref03_Twin : Tryz.prog.funcs[q5c]? = some Tryz.f20 := Tryz.func20
theorem I_fescueref03_Twin : IsFn Tryz.prog q5c := ⟨_, _, Tryz.func20, rfl⟩
abbrev q0r : FuncId := 21
theorem q4x : Tryz.prog.funcs[q0r]? = some Tryz.f21 := Tryz.func21
theorem q7D : IsFn Tryz.prog q0r := ⟨_, _, Tryz.func21, rfl⟩
theorem q1R {gl : Nat → AV} {K : Knob} : (Ctx.of Tryz.prog gl K).fn.get 21 = some Tryz.f21 := q5K.trans Tryz.func21
theorem q1S : Tryz.f21.body.isSome = true := rfl
abbrev N_tidy_of : FuncId := 22
theorem E_tidy_of : Tryz.prog.funcs[N_tidy_of]? = some Tryz.f22 := Tryz.func22
theorem I_tidy_of : IsFn Tryz.prog N_tidy_of := ⟨_, _, Tryz.func22, rfl⟩
abbrev q4w : FuncId := 23
theorem q7C : IsFn Tryz.prog q4w := ⟨_, _, Tryz.func23, rfl⟩
abbrev q4h : FuncId := 24
theorem z0M : Tryz.prog.funcs[q4h]? = some Tryz.f24 := Tryz.func24
theorem z0H : IsFn Tryz.prog q4h := ⟨_, _, Tryz.func24, rfl⟩
abbrev q2U : FuncId := 25
theorem q8n : Tryz.prog.funcs[q2U]? = some Tryz.f25 := Tryz.func25
theorem q8l : IsFn Tryz.prog q2U := ⟨_, _, Tryz.func25, rfl⟩
abbrev q3M : FuncId := 26
theorem q9P : Tryz.prog.funcs[q3M]? = some Tryz.f26 := Tryz.func26
theorem q5W : IsFn Tryz.prog q3M := ⟨_, _, Tryz.func26, rfl⟩
abbrev q1r : FuncId := 27
theorem q2W : Tryz.prog.funcs[q1r]? = some Tryz.f27 := Tryz.func27
theorem q0V : IsFn Tryz.prog q1r := ⟨_, _, Tryz.func27, rfl⟩
abbrev q6j : FuncId := 28
theorem E_tidy_Drop_1 : Tryz.prog.funcs[q6j]? = some Tryz.f28 := Tryz.func28
theorem I_tidy_Drop_1 : IsFn Tryz.prog q6j := ⟨_, _, Tryz.func28, rfl⟩
abbrev q3p : FuncId := 29
theorem q9n : Tryz.prog.funcs[q3p]? = some Tryz.f29 := Tryz.func29
theorem q9h : IsFn Tryz.prog q3p := ⟨_, _, Tryz.func29, rfl⟩
abbrev q6i : FuncId := 30
theorem E_tidy_Drop_2 : Tryz.prog.funcs[q6i]? = some Tryz.f30 := Tryz.func30
theorem I_tidy_Drop_2 : IsFn Tryz.prog q6i := ⟨_, _, Tryz.func30, rfl⟩
abbrev q2D : FuncId := 31
theorem q7m : Tryz.prog.funcs[q2D]? = some Tryz.f31 := Tryz.func31
theorem q1o : IsFn Tryz.prog q2D := ⟨_, _, Tryz.func31, rfl⟩
abbrev q3O : FuncId := 32
theorem q9R : Tryz.prog.funcs[q3O]? = some Tryz.f32 := Tryz.func32
theorem q9L : IsFn Tryz.prog q3O := ⟨_, _, Tryz.func32, rfl⟩
abbrev q4i : FuncId := 33
theorem z0N : Tryz.prog.funcs[q4i]? = some Tryz.f33 := Tryz.func33
theorem q2k : IsFn Tryz.prog q4i := ⟨_, _, Tryz.func33, rfl⟩
abbrev q0t : FuncId := 34
theorem q9W : Tryz.prog.funcs[q0t]? = some Tryz.f34 := Tryz.func34
theorem q1j {gl : Nat → AV} {K : Knob} : (Ctx.of Tryz.prog gl K).fn.get 34 = some Tryz.f34 := q5K.trans Tryz.func34
theorem q1k : Tryz.f34.body.isSome = true := rfl
abbrev q2j : FuncId := 35
theorem z0R : Tryz.prog.funcs[q2j]? = some Tryz.f35 := Tryz.func35
theorem q2m : IsFn Tryz.prog q2j := ⟨_, _, Tryz.func35, rfl⟩
theorem z0L {gl : Nat → AV} {K : Knob} : (Ctx.of Tryz.prog gl K).fn.get 35 = some Tryz.f35 := q5K.trans Tryz.func35
theorem z1a : Tryz.f35.body.isSome = true := rfl
abbrev q4U : FuncId := 36
theorem E_fescueref27_read : Tryz.prog.funcs[q4U]? = some Tryz.f36 := Tryz.func36
theorem q6X : IsFn Tryz.prog q4U := ⟨_, _, Tryz.func36, rfl⟩
abbrev q3q : FuncId := 37
theorem q9o : Tryz.prog.funcs[q3q]? = some Tryz.f37 := Tryz.func37
theorem q9j : IsFn Tryz.prog q3q := ⟨_, _, Tryz.func37, rfl⟩
abbrev q3L : FuncId := 38
theorem q9O : Tryz.prog.funcs[q3L]? = some Tryz.f38 := Tryz.func38
theorem q5V : IsFn Tryz.prog q3L := ⟨_, _, Tryz.func38, rfl⟩
abbrev q8e : FuncId := 39
theorem E_tidy_Swap_1 : Tryz.prog.funcs[q8e]? = some Tryz.f39 := Tryz.func39
abbrev q3r : FuncId := 40
theorem q9p : Tryz.prog.funcs[q3r]? = some Tryz.f40 := Tryz.func40
theorem q9k : IsFn Tryz.prog q3r := ⟨_, _, Tryz.func40, rfl⟩
abbrev q5d : FuncId := 41
theorem E_fescueref03_Same : Tryz.prog.funcs[q5d]? = some Tryz.f41 := Tryz.func41
theorem q5h : IsFn Tryz.prog q5d := ⟨_, _, Tryz.func41, rfl⟩
abbrev q1Q : FuncId := 42
theorem q7F : Tryz.prog.funcs[q1Q]? = some Tryz.f42 := Tryz.func42
theorem q7E {gl : Nat → AV} {K : Knob} : (Ctx.of Tryz.prog gl K).fn.get 42 = some Tryz.f42 := q5K.trans Tryz.func42
theorem q7G : Tryz.f42.body.isSome = true := rfl
abbrev q7A : FuncId := 52
theorem E_shape_of : Tryz.prog.funcs[q7A]? = some Tryz.f52 := Tryz.func52
theorem q9J : IsFn Tryz.prog q7A := ⟨_, _, Tryz.func52, rfl⟩
abbrev q8d : FuncId := 53
theorem E_types_Check : Tryz.prog.funcs[q8d]? = some Tryz.f53 := Tryz.func53
theorem q8i : IsFn Tryz.prog q8d := ⟨_, _, Tryz.func53, rfl⟩
abbrev q8f : FuncId := 54
theorem E_shape_below : Tryz.prog.funcs[q8f]? = some Tryz.f54 := Tryz.func54
theorem q0D : IsFn Tryz.prog q8f := ⟨_, _, Tryz.func54, rfl⟩
abbrev q1d : FuncId := 55
theorem q3w : Tryz.prog.funcs[q1d]? = some Tryz.f55 := Tryz.func55
theorem q1K : IsFn Tryz.prog q1d := ⟨_, _, Tryz.func55, rfl⟩
abbrev q4T : FuncId := 56
theorem E_shape_Check_1 : Tryz.prog.funcs[q4T]? = some Tryz.f56 := Tryz.func56
theorem I_shape_Check_1 : IsFn Tryz.prog q4T := ⟨_, _, Tryz.func56, rfl⟩
abbrev q5Q : FuncId := 57
theorem E_shape_function : Tryz.prog.funcs[q5Q]? = some Tryz.f57 := Tryz.func57
theorem I_shape_function : IsFn Tryz.prog q5Q := ⟨_, _, Tryz.func57, rfl⟩
abbrev q9e : FuncId := 58
theorem E_shape_Regs : Tryz.prog.funcs[q9e]? = some Tryz.f58 := Tryz.func58
theorem I_shape_Regs : IsFn Tryz.prog q9e := ⟨_, _, Tryz.func58, rfl⟩
abbrev q9d : FuncId := 59
theorem E_shape_Twin : Tryz.prog.funcs[q9d]? = some Tryz.f59 := Tryz.func59
theorem I_shape_Twin : IsFn Tryz.prog q9d := ⟨_, _, Tryz.func59, rfl⟩
abbrev q3P : FuncId := 60
theorem q9S : Tryz.prog.funcs[q3P]? = some Tryz.f60 := Tryz.func60
theorem q9M : IsFn Tryz.prog q3P := ⟨_, _, Tryz.func60, rfl⟩
abbrev q5E : FuncId := 61
theorem q9i : IsFn Tryz.prog q5E := ⟨_, _, Tryz.func61, rfl⟩
abbrev q0F : FuncId := 62
theorem q7l : Tryz.prog.funcs[q0F]? = some Tryz.f62 := Tryz.func62
theorem q7k : IsFn Tryz.prog q0F := ⟨_, _, Tryz.func62, rfl⟩
abbrev q3N : FuncId := 63
theorem q9Q : Tryz.prog.funcs[q3N]? = some Tryz.f63 := Tryz.func63
theorem q3R : IsFn Tryz.prog q3N := ⟨_, _, Tryz.func63, rfl⟩
abbrev q2p : FuncId := 64
theorem q8B : Tryz.prog.funcs[q2p]? = some Tryz.f64 := Tryz.func64
theorem q8w : IsFn Tryz.prog q2p := ⟨_, _, Tryz.func64, rfl⟩
abbrev q1E : FuncId := 65
theorem q3I : Tryz.prog.funcs[q1E]? = some Tryz.f65 := Tryz.func65
theorem q3H : IsFn Tryz.prog q1E := ⟨_, _, Tryz.func65, rfl⟩
abbrev q2b : FuncId := 66
theorem q8m : Tryz.prog.funcs[q2b]? = some Tryz.f66 := Tryz.func66
theorem q8k : IsFn Tryz.prog q2b := ⟨_, _, Tryz.func66, rfl⟩
abbrev q3b : FuncId := 67
theorem q8C : Tryz.prog.funcs[q3b]? = some Tryz.f67 := Tryz.func67
theorem q8x : IsFn Tryz.prog q3b := ⟨_, _, Tryz.func67, rfl⟩
abbrev q3a : FuncId := 68
theorem q5p : Tryz.prog.funcs[q3a]? = some Tryz.f68 := Tryz.func68
abbrev q4Z : FuncId := 69
theorem E_fescueref06_Regs : Tryz.prog.funcs[q4Z]? = some Tryz.f69 := Tryz.func69
theorem I_fescueref06_Regs : IsFn Tryz.prog q4Z := ⟨_, _, Tryz.func69, rfl⟩
abbrev q0G : FuncId := 70
theorem E_fescueref06_Many : Tryz.prog.funcs[q0G]? = some Tryz.f70 := Tryz.func70
theorem I_fescueref06_Many : IsFn Tryz.prog q0G := ⟨_, _, Tryz.func70, rfl⟩
theorem q1O {gl : Nat → AV} {K : Knob} : (Ctx.of Tryz.prog gl K).fn.get 70 = some Tryz.f70 := q5K.trans Tryz.func70
theorem q1P : Tryz.f70.body.isSome = true := rfl
abbrev q4W : FuncId := 71
theorem E_fescueref06_Uses : Tryz.prog.funcs[q4W]? = some Tryz.f71 := Tryz.func71
theorem q2A : IsFn Tryz.prog q4W := ⟨_, _, Tryz.func71, rfl⟩
abbrev q5S : FuncId := 72
theorem E_fescueref27_in : Tryz.prog.funcs[q5S]? = some Tryz.f72 := Tryz.func72
theorem q0U : IsFn Tryz.prog q5S := ⟨_, _, Tryz.func72, rfl⟩
abbrev q3Q : FuncId := 73
theorem q9X : Tryz.prog.funcs[q3Q]? = some Tryz.f73 := Tryz.func73
theorem q2I : IsFn Tryz.prog q3Q := ⟨_, _, Tryz.func73, rfl⟩
abbrev q5b : FuncId := 74
theorem E_fescueref06_Ends : Tryz.prog.funcs[q5b]? = some Tryz.f74 := Tryz.func74
theorem q5g : IsFn Tryz.prog q5b := ⟨_, _, Tryz.func74, rfl⟩
abbrev q1i : FuncId := 75
theorem q9T : Tryz.prog.funcs[q1i]? = some Tryz.f75 := Tryz.func75
theorem q9N : IsFn Tryz.prog q1i := ⟨_, _, Tryz.func75, rfl⟩
theorem q5X {gl : Nat → AV} {K : Knob} : (Ctx.of Tryz.prog gl K).fn.get 75 = some Tryz.f75 := q5K.trans Tryz.func75
theorem q6a : Tryz.f75.body.isSome = true := rfl
abbrev q2o : FuncId := 76
theorem q8A : Tryz.prog.funcs[q2o]? = some Tryz.f76 := Tryz.func76
theorem q8v : IsFn Tryz.prog q2o := ⟨_, _, Tryz.func76, rfl⟩
abbrev q2C : FuncId := 77
theorem q9q : Tryz.prog.funcs[q2C]? = some Tryz.f77 := Tryz.func77
theorem q9m {gl : Nat → AV} {K : Knob} : (Ctx.of Tryz.prog gl K).fn.get 77 = some Tryz.f77 := q5K.trans Tryz.func77
theorem q9v : Tryz.f77.body.isSome = true := rfl
abbrev z0D : FuncId := 83
theorem E_types_may : Tryz.prog.funcs[z0D]? = some Tryz.f83 := Tryz.func83
theorem I_types_may : IsFn Tryz.prog z0D := ⟨_, _, Tryz.func83, rfl⟩
abbrev q1p : FuncId := 84
theorem q3Z : Tryz.prog.funcs[q1p]? = some Tryz.f84 := Tryz.func84
theorem q3Y : IsFn Tryz.prog q1p := ⟨_, _, Tryz.func84, rfl⟩
abbrev q1c : FuncId := 85
theorem E_shape_many : Tryz.prog.funcs[q1c]? = some Tryz.f85 := Tryz.func85
theorem I_shape_many : IsFn Tryz.prog q1c := ⟨_, _, Tryz.func85, rfl⟩
theorem q2O {gl : Nat → AV} {K : Knob} : (Ctx.of Tryz.prog gl K).fn.get 85 = some Tryz.f85 := q5K.trans Tryz.func85
theorem q2P : Tryz.f85.body.isSome = true := rfl
abbrev q1B : FuncId := 86
theorem E_shape_function_1 : Tryz.prog.funcs[q1B]? = some Tryz.f86 := Tryz.func86
theorem I_shape_function_1 : IsFn Tryz.prog q1B := ⟨_, _, Tryz.func86, rfl⟩
abbrev q6E : FuncId := 87
theorem E_shape_ins : Tryz.prog.funcs[q6E]? = some Tryz.f87 := Tryz.func87
theorem I_shape_ins : IsFn Tryz.prog q6E := ⟨_, _, Tryz.func87, rfl⟩
abbrev q0W : FuncId := 88
theorem q3f : Tryz.prog.funcs[q0W]? = some Tryz.f88 := Tryz.func88
theorem q3e : IsFn Tryz.prog q0W := ⟨_, _, Tryz.func88, rfl⟩
abbrev q3j : FuncId := 89
theorem E_shape_function_2 : Tryz.prog.funcs[q3j]? = some Tryz.f89 := Tryz.func89
theorem I_shape_function_2 : IsFn Tryz.prog q3j := ⟨_, _, Tryz.func89, rfl⟩
abbrev q1l : FuncId := 90
theorem q3S : Tryz.prog.funcs[q1l]? = some Tryz.f90 := Tryz.func90
theorem q1Z : IsFn Tryz.prog q1l := ⟨_, _, Tryz.func90, rfl⟩
abbrev z0E : FuncId := 91
theorem E_shape_end : Tryz.prog.funcs[z0E]? = some Tryz.f91 := Tryz.func91
theorem I_shape_end : IsFn Tryz.prog z0E := ⟨_, _, Tryz.func91, rfl⟩
abbrev q8g : FuncId := 92
theorem E_shape_asked : Tryz.prog.funcs[q8g]? = some Tryz.f92 := Tryz.func92
theorem I_shape_asked : IsFn Tryz.prog q8g := ⟨_, _, Tryz.func92, rfl⟩
abbrev q2v : FuncId := 93
theorem E_types_Twin : Tryz.prog.funcs[q2v]? = some Tryz.f93 := Tryz.func93
theorem G_types_Twin {gl : Nat → AV} {K : Knob} : (Ctx.of Tryz.prog gl K).fn.get 93 = some Tryz.f93 := q5K.trans Tryz.func93
theorem B_types_Twin : Tryz.f93.body.isSome = true := rfl
abbrev q0n : FuncId := 94
theorem q5n : Tryz.prog.funcs[q0n]? = some Tryz.f94 := Tryz.func94
theorem q5l {gl : Nat → AV} {K : Knob} : (Ctx.of Tryz.prog gl K).fn.get 94 = some Tryz.f94 := q5K.trans Tryz.func94
theorem q5o : Tryz.f94.body.isSome = true := rfl
abbrev q0o : FuncId := 95
theorem q4C : Tryz.prog.funcs[q0o]? = some Tryz.f95 := Tryz.func95
theorem q4A {gl : Nat → AV} {K : Knob} : (Ctx.of Tryz.prog gl K).fn.get 95 = some Tryz.f95 := q5K.trans Tryz.func95
theorem q4D : Tryz.f95.body.isSome = true := rfl
abbrev q1J : FuncId := 96
theorem q5J : Tryz.prog.funcs[q1J]? = some Tryz.f96 := Tryz.func96
theorem q5I : IsFn Tryz.prog q1J := ⟨_, _, Tryz.func96, rfl⟩
abbrev q0j : FuncId := 97
theorem q8D : Tryz.prog.funcs[q0j]? = some Tryz.f97 := Tryz.func97
theorem q8y : IsFn Tryz.prog q0j := ⟨_, _, Tryz.func97, rfl⟩
theorem q8z {gl : Nat → AV} {K : Knob} : (Ctx.of Tryz.prog gl K).fn.get 97 = some Tryz.f97 := q5K.trans Tryz.func97
theorem q8F : Tryz.f97.body.isSome = true := rfl
abbrev q2r : FuncId := 98
theorem q6N : Tryz.prog.funcs[q2r]? = some Tryz.f98 := Tryz.func98
theorem q6M : IsFn Tryz.prog q2r := ⟨_, _, Tryz.func98, rfl⟩
abbrev q4k : FuncId := 101
theorem z0P : Tryz.prog.funcs[q4k]? = some Tryz.f101 := Tryz.func101
theorem q6H : IsFn Tryz.prog q4k := ⟨_, _, Tryz.func101, rfl⟩
abbrev q5a : FuncId := 102
theorem E_fescueref06_HasA : Tryz.prog.funcs[q5a]? = some Tryz.f102 := Tryz.func102
theorem q2B : IsFn Tryz.prog q5a := ⟨_, _, Tryz.func102, rfl⟩
abbrev q5w : FuncId := 103
theorem E_fescueref06_two : Tryz.prog.funcs[q5w]? = some Tryz.f103 := Tryz.func103
theorem q3C : IsFn Tryz.prog q5w := ⟨_, _, Tryz.func103, rfl⟩
abbrev q3s : FuncId := 104
theorem q9s : Tryz.prog.funcs[q3s]? = some Tryz.f104 := Tryz.func104
theorem q3v : IsFn Tryz.prog q3s := ⟨_, _, Tryz.func104, rfl⟩
abbrev q5R : FuncId := 105
theorem E_fescueref27_to : Tryz.prog.funcs[q5R]? = some Tryz.f105 := Tryz.func105
theorem I_fescueref27_to : IsFn Tryz.prog q5R := ⟨_, _, Tryz.func105, rfl⟩
abbrev q8c : FuncId := 117
theorem E_types_plain : Tryz.prog.funcs[q8c]? = some Tryz.f117 := Tryz.func117
theorem I_types_plain : IsFn Tryz.prog q8c := ⟨_, _, Tryz.func117, rfl⟩
abbrev q8b : FuncId := 118
theorem E_types_there : Tryz.prog.funcs[q8b]? = some Tryz.f118 := Tryz.func118
theorem q6l : IsFn Tryz.prog q8b := ⟨_, _, Tryz.func118, rfl⟩
abbrev q6h : FuncId := 119
theorem E_types_may_1 : Tryz.prog.funcs[q6h]? = some Tryz.f119 := Tryz.func119
theorem I_types_may_1 : IsFn Tryz.prog q6h := ⟨_, _, Tryz.func119, rfl⟩
abbrev q7i : FuncId := 120
theorem E_types_scalar : Tryz.prog.funcs[q7i]? = some Tryz.f120 := Tryz.func120
theorem I_types_scalar : IsFn Tryz.prog q7i := ⟨_, _, Tryz.func120, rfl⟩
abbrev z0C : FuncId := 121
theorem E_types_sum : Tryz.prog.funcs[z0C]? = some Tryz.f121 := Tryz.func121
theorem z0G : IsFn Tryz.prog z0C := ⟨_, _, Tryz.func121, rfl⟩
abbrev z0F : FuncId := 122
theorem E_shape_all : Tryz.prog.funcs[z0F]? = some Tryz.f122 := Tryz.func122
theorem I_shape_all : IsFn Tryz.prog z0F := ⟨_, _, Tryz.func122, rfl⟩
abbrev q7j : FuncId := 123
theorem E_shape_number : Tryz.prog.funcs[q7j]? = some Tryz.f123 := Tryz.func123
theorem I_shape_number : IsFn Tryz.prog q7j := ⟨_, _, Tryz.func123, rfl⟩
abbrev q1g : FuncId := 124
theorem q3E : Tryz.prog.funcs[q1g]? = some Tryz.f124 := Tryz.func124
theorem q3D : IsFn Tryz.prog q1g := ⟨_, _, Tryz.func124, rfl⟩
abbrev q1t : FuncId := 125
theorem q4B : Tryz.prog.funcs[q1t]? = some Tryz.f125 := Tryz.func125
theorem q4z : IsFn Tryz.prog q1t := ⟨_, _, Tryz.func125, rfl⟩
abbrev q1C : FuncId := 126
theorem q5m : Tryz.prog.funcs[q1C]? = some Tryz.f126 := Tryz.func126
theorem q5k : IsFn Tryz.prog q1C := ⟨_, _, Tryz.func126, rfl⟩
abbrev q4m : FuncId := 138
theorem z0S : Tryz.prog.funcs[q4m]? = some Tryz.f138 := Tryz.func138
theorem z0I : IsFn Tryz.prog q4m := ⟨_, _, Tryz.func138, rfl⟩
abbrev q4S : FuncId := 162
theorem E_types_there_1 : Tryz.prog.funcs[q4S]? = some Tryz.f162 := Tryz.func162
theorem I_types_there_1 : IsFn Tryz.prog q4S := ⟨_, _, Tryz.func162, rfl⟩
abbrev q6k : FuncId := 163
theorem E_shape_all_1 : Tryz.prog.funcs[q6k]? = some Tryz.f163 := Tryz.func163
theorem I_shape_all_1 : IsFn Tryz.prog q6k := ⟨_, _, Tryz.func163, rfl⟩
abbrev q4r : FuncId := 170
theorem z0X : Tryz.prog.funcs[q4r]? = some Tryz.f170 := Tryz.func170
theorem q6J : IsFn Tryz.prog q4r := ⟨_, _, Tryz.func170, rfl⟩
abbrev q1I : FuncId := 171
theorem q9r : Tryz.prog.funcs[q1I]? = some Tryz.f171 := Tryz.func171
theorem q5G {gl : Nat → AV} {K : Knob} : (Ctx.of Tryz.prog gl K).fn.get 171 = some Tryz.f171 := q5K.trans Tryz.func171
theorem q5H : Tryz.f171.body.isSome = true := rfl
abbrev q3u : FuncId := 189
theorem q9u : Tryz.prog.funcs[q3u]? = some Tryz.f189 := Tryz.func189
theorem q5F : IsFn Tryz.prog q3u := ⟨_, _, Tryz.func189, rfl⟩
abbrev q4b : FuncId := 190
theorem E_fescueref03_Of : Tryz.prog.funcs[q4b]? = some Tryz.f190 := Tryz.func190
theorem q5T : IsFn Tryz.prog q4b := ⟨_, _, Tryz.func190, rfl⟩
abbrev q1X : FuncId := 191
theorem q9U : Tryz.prog.funcs[q1X]? = some Tryz.f191 := Tryz.func191
theorem q5Y {gl : Nat → AV} {K : Knob} : (Ctx.of Tryz.prog gl K).fn.get 191 = some Tryz.f191 := q5K.trans Tryz.func191
theorem q6b : Tryz.f191.body.isSome = true := rfl
abbrev q1Y : FuncId := 192
theorem q9V : Tryz.prog.funcs[q1Y]? = some Tryz.f192 := Tryz.func192
theorem q5Z {gl : Nat → AV} {K : Knob} : (Ctx.of Tryz.prog gl K).fn.get 192 = some Tryz.f192 := q5K.trans Tryz.func192
theorem q6c : Tryz.f192.body.isSome = true := rfl
abbrev q4n : FuncId := 214
theorem z0T : Tryz.prog.funcs[q4n]? = some Tryz.f214 := Tryz.func214
theorem z0J : IsFn Tryz.prog q4n := ⟨_, _, Tryz.func214, rfl⟩
abbrev q4o : FuncId := 215
theorem z0U : Tryz.prog.funcs[q4o]? = some Tryz.f215 := Tryz.func215
theorem z0K : IsFn Tryz.prog q4o := ⟨_, _, Tryz.func215, rfl⟩
abbrev q4j : FuncId := 216
theorem z0O : Tryz.prog.funcs[q4j]? = some Tryz.f216 := Tryz.func216
theorem q2l : IsFn Tryz.prog q4j := ⟨_, _, Tryz.func216, rfl⟩
abbrev q4V : FuncId := 217
theorem E_fescueref06_mayN : Tryz.prog.funcs[q4V]? = some Tryz.f217 := Tryz.func217
theorem I_fescueref06_mayN : IsFn Tryz.prog q4V := ⟨_, _, Tryz.func217, rfl⟩
abbrev q3t : FuncId := 218
theorem q9t : Tryz.prog.funcs[q3t]? = some Tryz.f218 := Tryz.func218
theorem q9l : IsFn Tryz.prog q3t := ⟨_, _, Tryz.func218, rfl⟩
abbrev q4p : FuncId := 239
theorem z0V : Tryz.prog.funcs[q4p]? = some Tryz.f239 := Tryz.func239
theorem q4t : IsFn Tryz.prog q4p := ⟨_, _, Tryz.func239, rfl⟩
end Go.Ax
noncomputable section
namespace Go.Ax
open Go.Proofs
variable {gl : Nat → AV} {K : Knob}
theorem ti2 : (Ctx.of Tryz.prog gl K).ti 2 = some { desc := .int .i64, size := 1, isAgg := false, zero := [.int .i64 0], zeroOk := true, bytes := 8, comparable := true, zv := .int .i64 0 } := (q6L (by kernel_rfl)).trans (by kernel_rfl)
attribute [simp] ti2
theorem ti3 : (Ctx.of Tryz.prog gl K).ti 3 = some { desc := .int .i64, size := 1, isAgg := false, zero := [.int .i64 0], zeroOk := true, bytes := 8, comparable := true, zv := .int .i64 0 } := (q6L (by kernel_rfl)).trans (by kernel_rfl)
attribute [simp] ti3
theorem ti4 : (Ctx.of Tryz.prog gl K).ti 4 = some { desc := .bool, size := 1, isAgg := false, zero := [.bool false], zeroOk := true, bytes := 1, comparable := true, zv := .bool false } := (q6L (by kernel_rfl)).trans (by kernel_rfl)
attribute [simp] ti4
theorem ti5 : (Ctx.of Tryz.prog gl K).ti 5 = some { desc := .int .u8, size := 1, isAgg := false, zero := [.int .u8 0], zeroOk := true, bytes := 1, comparable := true, zv := .int .u8 0 } := (q6L (by kernel_rfl)).trans (by kernel_rfl)
attribute [simp] ti5
theorem ti22 : (Ctx.of Tryz.prog gl K).ti 22 = some { desc := .slice 97, size := 1, isAgg := false, zero := [.nilsl], zeroOk := true, bytes := 24, comparable := false, zv := .nilsl } := (q6L (by kernel_rfl)).trans (by kernel_rfl)
attribute [simp] ti22
theorem ti23 : (Ctx.of Tryz.prog gl K).ti 23 = some { desc := .slice 43, size := 1, isAgg := false, zero := [.nilsl], zeroOk := true, bytes := 24, comparable := false, zv := .nilsl } := (q6L (by kernel_rfl)).trans (by kernel_rfl)
attribute [simp] ti23
theorem ti25 : (Ctx.of Tryz.prog gl K).ti 25 = some { desc := .struct #[{ name := "Types", type := 22, offset := 0, embedded := false, tag := "", pkgPath := "", byteOffset := 0 }, { name := "Funcs", type := 23, offset := 1, embedded := false, tag := "", pkgPath := "", byteOffset := 24 }], size := 2, isAgg := true, zero := [.nilsl, .nilsl], zeroOk := true, bytes := 48, comparable := false, zv := .agg [.nilsl, .nilsl] } := (q6L (by kernel_rfl)).trans (by kernel_rfl)
attribute [simp] ti25
theorem ti26 : (Ctx.of Tryz.prog gl K).ti 26 = some { desc := .slice 3, size := 1, isAgg := false, zero := [.nilsl], zeroOk := true, bytes := 24, comparable := false, zv := .nilsl } := (q6L (by kernel_rfl)).trans (by kernel_rfl)
attribute [simp] ti26
theorem ti41 : (Ctx.of Tryz.prog gl K).ti 41 = some { desc := .slice 49, size := 1, isAgg := false, zero := [.nilsl], zeroOk := true, bytes := 24, comparable := false, zv := .nilsl } := (q6L (by kernel_rfl)).trans (by kernel_rfl)
attribute [simp] ti41
theorem ti43 : (Ctx.of Tryz.prog gl K).ti 43 = some { desc := .struct #[{ name := "Sig", type := 3, offset := 0, embedded := false, tag := "", pkgPath := "", byteOffset := 0 }, { name := "Blocks", type := 41, offset := 1, embedded := false, tag := "", pkgPath := "", byteOffset := 8 }], size := 2, isAgg := true, zero := [.int .i64 0, .nilsl], zeroOk := true, bytes := 32, comparable := false, zv := .agg [.int .i64 0, .nilsl] } := (q6L (by kernel_rfl)).trans (by kernel_rfl)
attribute [simp] ti43
theorem ti45 : (Ctx.of Tryz.prog gl K).ti 45 = some { desc := .slice 52, size := 1, isAgg := false, zero := [.nilsl], zeroOk := true, bytes := 24, comparable := false, zv := .nilsl } := (q6L (by kernel_rfl)).trans (by kernel_rfl)
attribute [simp] ti45
theorem ti47 : (Ctx.of Tryz.prog gl K).ti 47 = some { desc := .struct #[{ name := "Kind", type := 5, offset := 0, embedded := false, tag := "", pkgPath := "", byteOffset := 0 }, { name := "A", type := 3, offset := 1, embedded := false, tag := "", pkgPath := "", byteOffset := 8 }, { name := "To", type := 3, offset := 2, embedded := false, tag := "", pkgPath := "", byteOffset := 16 }, { name := "Else", type := 3, offset := 3, embedded := false, tag := "", pkgPath := "", byteOffset := 24 }], size := 4, isAgg := true, zero := [.int .u8 0, .int .i64 0, .int .i64 0, .int .i64 0], zeroOk := true, bytes := 32, comparable := true, zv := .agg [.int .u8 0, .int .i64 0, .int .i64 0, .int .i64 0] } := (q6L (by kernel_rfl)).trans (by kernel_rfl)
attribute [simp] ti47
theorem ti49 : (Ctx.of Tryz.prog gl K).ti 49 = some { desc := .struct #[{ name := "Ins", type := 45, offset := 0, embedded := false, tag := "", pkgPath := "", byteOffset := 0 }, { name := "End", type := 47, offset := 1, embedded := false, tag := "", pkgPath := "", byteOffset := 24 }], size := 5, isAgg := true, zero := [.nilsl, .int .u8 0, .int .i64 0, .int .i64 0, .int .i64 0], zeroOk := true, bytes := 56, comparable := false, zv := .agg [.nilsl, .int .u8 0, .int .i64 0, .int .i64 0, .int .i64 0] } := (q6L (by kernel_rfl)).trans (by kernel_rfl)
attribute [simp] ti49
theorem ti52 : (Ctx.of Tryz.prog gl K).ti 52 = some { desc := .struct #[{ name := "Op", type := 5, offset := 0, embedded := false, tag := "", pkgPath := "", byteOffset := 0 }, { name := "Type", type := 3, offset := 1, embedded := false, tag := "", pkgPath := "", byteOffset := 8 }, { name := "A", type := 3, offset := 2, embedded := false, tag := "", pkgPath := "", byteOffset := 16 }, { name := "B", type := 3, offset := 3, embedded := false, tag := "", pkgPath := "", byteOffset := 24 }, { name := "N", type := 2, offset := 4, embedded := false, tag := "", pkgPath := "", byteOffset := 32 }, { name := "Args", type := 26, offset := 5, embedded := false, tag := "", pkgPath := "", byteOffset := 40 }, { name := "From", type := 26, offset := 6, embedded := false, tag := "", pkgPath := "", byteOffset := 64 }], size := 7, isAgg := true, zero := [.int .u8 0, .int .i64 0, .int .i64 0, .int .i64 0, .int .i64 0, .nilsl, .nilsl], zeroOk := true, bytes := 88, comparable := false, zv := .agg [.int .u8 0, .int .i64 0, .int .i64 0, .int .i64 0, .int .i64 0, .nilsl, .nilsl] } := (q6L (by kernel_rfl)).trans (by kernel_rfl)
attribute [simp] ti52
theorem ti58 : (Ctx.of Tryz.prog gl K).ti 58 = some { desc := .pointer 69, size := 1, isAgg := false, zero := [.nilptr], zeroOk := true, bytes := 8, comparable := true, zv := .nilptr } := (q6L (by kernel_rfl)).trans (by kernel_rfl)
attribute [simp] ti58
theorem ti69 : (Ctx.of Tryz.prog gl K).ti 69 = some { desc := .struct #[{ name := "params", type := 3, offset := 0, embedded := false, tag := "", pkgPath := "fescue/tidy", byteOffset := 0 }, { name := "blocks", type := 41, offset := 1, embedded := false, tag := "", pkgPath := "fescue/tidy", byteOffset := 8 }], size := 2, isAgg := true, zero := [.int .i64 0, .nilsl], zeroOk := true, bytes := 32, comparable := false, zv := .agg [.int .i64 0, .nilsl] } := (q6L (by kernel_rfl)).trans (by kernel_rfl)
attribute [simp] ti69
theorem ti77 : (Ctx.of Tryz.prog gl K).ti 77 = some { desc := .func #[3] #[3] false, size := 1, isAgg := false, zero := [.nilfn], zeroOk := true, bytes := 8, comparable := false, zv := .nilfn } := (q6L (by kernel_rfl)).trans (by kernel_rfl)
attribute [simp] ti77
theorem ti89 : (Ctx.of Tryz.prog gl K).ti 89 = some { desc := .struct #[{ name := "a", type := 4, offset := 0, embedded := false, tag := "", pkgPath := "fescue/shape", byteOffset := 0 }, { name := "b", type := 4, offset := 1, embedded := false, tag := "", pkgPath := "fescue/shape", byteOffset := 1 }, { name := "n", type := 4, offset := 2, embedded := false, tag := "", pkgPath := "fescue/shape", byteOffset := 2 }, { name := "args", type := 4, offset := 3, embedded := false, tag := "", pkgPath := "fescue/shape", byteOffset := 3 }, { name := "from", type := 4, offset := 4, embedded := false, tag := "", pkgPath := "fescue/shape", byteOffset := 4 }, { name := "answer", type := 4, offset := 5, embedded := false, tag := "", pkgPath := "fescue/shape", byteOffset := 5 }], size := 6, isAgg := true, zero := [.bool false, .bool false, .bool false, .bool false, .bool false, .bool false], zeroOk := true, bytes := 6, comparable := true, zv := .agg [.bool false, .bool false, .bool false, .bool false, .bool false, .bool false] } := (q6L (by kernel_rfl)).trans (by kernel_rfl)
attribute [simp] ti89
theorem ti97 : (Ctx.of Tryz.prog gl K).ti 97 = some { desc := .struct #[{ name := "Kind", type := 5, offset := 0, embedded := false, tag := "", pkgPath := "", byteOffset := 0 }, { name := "Elem", type := 3, offset := 1, embedded := false, tag := "", pkgPath := "", byteOffset := 8 }, { name := "Many", type := 3, offset := 2, embedded := false, tag := "", pkgPath := "", byteOffset := 16 }, { name := "Parts", type := 26, offset := 3, embedded := false, tag := "", pkgPath := "", byteOffset := 24 }], size := 4, isAgg := true, zero := [.int .u8 0, .int .i64 0, .int .i64 0, .nilsl], zeroOk := true, bytes := 48, comparable := false, zv := .agg [.int .u8 0, .int .i64 0, .int .i64 0, .nilsl] } := (q6L (by kernel_rfl)).trans (by kernel_rfl)
attribute [simp] ti97
theorem ti124 : (Ctx.of Tryz.prog gl K).ti 124 = some { desc := .struct #[{ name := "types", type := 3, offset := 0, embedded := false, tag := "", pkgPath := "fescue/shape", byteOffset := 0 }, { name := "funcs", type := 3, offset := 1, embedded := false, tag := "", pkgPath := "fescue/shape", byteOffset := 8 }, { name := "regs", type := 3, offset := 2, embedded := false, tag := "", pkgPath := "fescue/shape", byteOffset := 16 }, { name := "blocks", type := 3, offset := 3, embedded := false, tag := "", pkgPath := "fescue/shape", byteOffset := 24 }], size := 4, isAgg := true, zero := [.int .i64 0, .int .i64 0, .int .i64 0, .int .i64 0], zeroOk := true, bytes := 32, comparable := true, zv := .agg [.int .i64 0, .int .i64 0, .int .i64 0, .int .i64 0] } := (q6L (by kernel_rfl)).trans (by kernel_rfl)
attribute [simp] ti124
theorem ti126 : (Ctx.of Tryz.prog gl K).ti 126 = some { desc := .func #[52] #[4] false, size := 1, isAgg := false, zero := [.nilfn], zeroOk := true, bytes := 8, comparable := false, zv := .nilfn } := (q6L (by kernel_rfl)).trans (by kernel_rfl)
attribute [simp] ti126
end Go.Ax
noncomputable section
namespace Go.Ax
open Go.Proofs
variable {gl : Nat → AV} {K : Knob}
abbrev q3x : TypeId := 89
abbrev q2Z : TypeId := 124
abbrev q1n : Nat := 0
theorem ti118 : (Ctx.of Tryz.prog gl K).ti 118 = some { desc := .array 23 89, size := 138, isAgg := true, zero := [.bool false, .bool false, .bool false, .bool false, .bool false, .bool false, .bool false, .bool false, .bool false, .bool false, .bool false, .bool false, .bool false, .bool false, .bool false, .bool false, .bool false, .bool false, .bool false, .bool false, .bool false, .bool false, .bool false, .bool false, .bool false, .bool false, .bool false, .bool false, .bool false, .bool false, .bool false, .bool false, .bool false, .bool false, .bool false, .bool false, .bool false, .bool false, .bool false, .bool false, .bool false, .bool false, .bool false, .bool false, .bool false, .bool false, .bool false, .bool false, .bool false, .bool false, .bool false, .bool false, .bool false, .bool false, .bool false, .bool false, .bool false, .bool false, .bool false, .bool false, .bool false, .bool false, .bool false, .bool false, .bool false, .bool false, .bool false, .bool false, .bool false, .bool false, .bool false, .bool false, .bool false, .bool false, .bool false, .bool false, .bool false, .bool false, .bool false, .bool false, .bool false, .bool false, .bool false, .bool false, .bool false, .bool false, .bool false, .bool false, .bool false, .bool false, .bool false, .bool false, .bool false, .bool false, .bool false, .bool false, .bool false, .bool false, .bool false, .bool false, .bool false, .bool false, .bool false, .bool false, .bool false, .bool false, .bool false, .bool false, .bool false, .bool false, .bool false, .bool false, .bool false, .bool false, .bool false, .bool false, .bool false, .bool false, .bool false, .bool false, .bool false, .bool false, .bool false, .bool false, .bool false, .bool false, .bool false, .bool false, .bool false, .bool false, .bool false, .bool false, .bool false, .bool false, .bool false, .bool false, .bool false, .bool false], zeroOk := true, bytes := 138, comparable := true, zv := .agg [.bool false, .bool false, .bool false, .bool false, .bool false, .bool false, .bool false, .bool false, .bool false, .bool false, .bool false, .bool false, .bool false, .bool false, .bool false, .bool false, .bool false, .bool false, .bool false, .bool false, .bool false, .bool false, .bool false, .bool false, .bool false, .bool false, .bool false, .bool false, .bool false, .bool false, .bool false, .bool false, .bool false, .bool false, .bool false, .bool false, .bool false, .bool false, .bool false, .bool false, .bool false, .bool false, .bool false, .bool false, .bool false, .bool false, .bool false, .bool false, .bool false, .bool false, .bool false, .bool false, .bool false, .bool false, .bool false, .bool false, .bool false, .bool false, .bool false, .bool false, .bool false, .bool false, .bool false, .bool false, .bool false, .bool false, .bool false, .bool false, .bool false, .bool false, .bool false, .bool false, .bool false, .bool false, .bool false, .bool false, .bool false, .bool false, .bool false, .bool false, .bool false, .bool false, .bool false, .bool false, .bool false, .bool false, .bool false, .bool false, .bool false, .bool false, .bool false, .bool false, .bool false, .bool false, .bool false, .bool false, .bool false, .bool false, .bool false, .bool false, .bool false, .bool false, .bool false, .bool false, .bool false, .bool false, .bool false, .bool false, .bool false, .bool false, .bool false, .bool false, .bool false, .bool false, .bool false, .bool false, .bool false, .bool false, .bool false, .bool false, .bool false, .bool false, .bool false, .bool false, .bool false, .bool false, .bool false, .bool false, .bool false, .bool false, .bool false, .bool false, .bool false, .bool false, .bool false, .bool false, .bool false, .bool false] } := (q6L (by kernel_rfl)).trans (by kernel_rfl)
attribute [simp] ti118
end Go.Ax
noncomputable section
namespace Go.Ax
open Go.Proofs
attribute [local irreducible] TW TO CallsT q0y
variable {F : Nat → Option Obj} {gl : Nat → AV} {K : Knob}
def idxP {α : Type} (p : α → Bool) (l : List α) : Int := match l.findIdx? p with | some i => (i : Int) | none => -1
theorem q9A {α : Type} (p : α → Bool) (l : List α) : decide (0 ≤ idxP p l) = l.any p := by
  unfold idxP
  cases h : l.findIdx? p with
  | none =>
    have := List.findIdx?_eq_none_iff.1 h
    have h2 : l.any p = false := by rw [List.any_eq_false]; intro x hx; simp [this x hx]
    rw [h2]; rfl
  | some i =>
    have h2 : l.any p = true := by
      obtain ⟨h1, h2, _⟩ := List.findIdx?_eq_some_iff_getElem.1 h
      exact List.any_eq_true.2 ⟨_, List.getElem_mem h1, h2⟩
    rw [h2]; simp
theorem IndexFunc_ints (hP : POk Tryz.prog F gl K) (xs : Sl Int) (g : FuncId) (cap : List AV) (p : Int → Bool) (hg : IsFn Tryz.prog g) (h : Hp) (hlen : xs.list.length < 1000000)
  (hc : ∀ x ∈ xs.list, ∀ h', Wid h h' → Qt Tryz.prog F h' (.bool (p x)) g ([.int .i64 x] ++ cap)) :
  Qt Tryz.prog F h (.int .i64 (idxP p xs.list)) q1E [xs.av cI, .fn (.func g) [] cap] := by
 refine CallsT.body hP q0e q3I rfl rfl ?_
 refine TW.seq (TW.reg hP (by simp <;> rfl) ?_)
 dsimp only [goK, q0a, q0f, q0d]
 refine TW.seq (TW.seq (TW.reg hP (by simp <;> rfl) ?_))
 dsimp only [goK, q0a, q0f, q0d]
 refine TW.block (TW.loopL (fun i : Nat => [(0, xs.av cI), (1, .fn (.func g) [] cap), (7, .int .i64 xs.list.length), (8, .int .i64 (i : Nat))]) (fun i k => i ≤ xs.list.length ∧ (∀ j (hj : j < i) (hl : j < xs.list.length), p (xs.list[j]) = false) ∧ Wid h k) (fun i => xs.list.length - i) 0 (by repeat' first | exact q0c | refine q0b (by simp) ?_) ⟨Nat.zero_le _, fun j hj => absurd hj (Nat.not_lt_zero _), .refl _⟩ ?_)
 rintro i k ⟨hi, hno, hw⟩
 refine TW.seq (TW.reg hP (by simp <;> rfl) ?_)
 dsimp only [goK, q0a, q0f, q0d]
 refine TW.seq (TW.cond hP rfl (fun hc' => TW.skip ?_) (fun hc' => TW.exit ?_))
 ·have hi' : i < xs.list.length := by simpa using hc'
  have hx : xs.list[i]? = some xs.list[i] := List.getElem?_eq_getElem hi'
  have hav := q0z (e := cI) (show 0 < xs.list.length by omega)
  dsimp only [q0a]
  refine TW.seq (TW.block (TW.seq (TW.reg hP (by simp <;> rfl) ?_)))
  dsimp only [goK, q0a]
  refine TW.seq (TW.reg hP (by simp [cI, hx, hav] <;> rfl) ?_)
  dsimp only [goK, q0a, q0f, q0d]
  refine TO.qcall hP hg (hc xs.list[i] (List.getElem_mem hi') k hw) (by simp) rfl rfl rfl rfl fun k' hk' => ?_
  refine TO.runs hP (by simp <;> rfl) ?_
  dsimp only [goK, q0a, q0f, q0d]
  refine TW.cond hP rfl (fun hp => ?_) (fun hp => TW.skip ?_)
  ·refine TW.seq (TW.reg hP (by simp <;> rfl) ?_)
   dsimp only [goK, q0a, q0f, q0d]
   refine TW.ret ⟨.inr rfl, k', _, rfl, rfl, ?_, hw.trans hk'⟩
   simp only [q0h, idxP]
   rw [List.findIdx?_eq_some_iff_getElem.2 ⟨hi', hp, fun j hj => by simp [hno j hj (by omega)]⟩]
  ·dsimp only [q0f, q0a]
   refine TW.reg hP (by simp; simp (disch := omega) only [bAdd]; simp <;> rfl) ?_
   dsimp only [goK, q0a, q0f, q0d]
   refine ⟨i + 1, by omega, rfl, ?_, by omega, fun j hj hl => ?_, hw.trans hk'⟩
   ·repeat' first | exact q0c | refine q0b (by simp [hav]) ?_
   ·by_cases he : j = i
    ·subst he; exact hp
    ·exact hno j (by omega) hl
 ·have hi' : ¬ i < xs.list.length := by simpa using hc'
  dsimp only [q0a, q0d, q0f]
  refine TW.seq (TW.reg hP (by simp <;> rfl) ?_)
  dsimp only [goK, q0a, q0f, q0d]
  refine TW.ret ⟨.inr rfl, k, _, rfl, rfl, ?_, hw⟩
  simp only [q0h, idxP]
  rw [List.findIdx?_eq_none_iff.2 fun x hx => by
   obtain ⟨j, hj, rfl⟩ := List.getElem_of_mem hx
   exact hno j (by omega) hj]
theorem q7B (hP : POk Tryz.prog F gl K) (xs : Sl Int) (g : FuncId) (cap : List AV) (p : Int → Bool) (hg : IsFn Tryz.prog g) (h : Hp) (hlen : xs.list.length < 1000000)
  (hc : ∀ x ∈ xs.list, ∀ h', Wid h h' → Qt Tryz.prog F h' (.bool (p x)) g ([.int .i64 x] ++ cap)) :
  Qt Tryz.prog F h (.bool (xs.list.any p)) q1r [xs.av cI, .fn (.func g) [] cap] := by
 refine CallsT.body hP q0e q2W rfl rfl ?_
 refine TW.seq (TW.reg hP (by simp <;> rfl) ?_)
 dsimp only [goK, q0a, q0f, q0d]
 refine TW.seq (TW.reg hP (by simp <;> rfl) ?_)
 dsimp only [goK, q0a, q0f, q0d]
 refine TO.qcall hP q3H (IndexFunc_ints hP xs g cap p hg h hlen hc) (by simp) rfl rfl rfl rfl fun k hk => ?_
 refine TO.runs hP (by simp <;> rfl) ?_
 dsimp only [goK, q0a, q0f, q0d]
 refine TW.ret ⟨.inr rfl, k, _, rfl, rfl, ?_, hk⟩
 rw [← q9A]; rfl
theorem IndexFunc_funcs (hP : POk Tryz.prog F gl K) (xs : Sl LFunc) (g : FuncId) (cap : List AV) (p : LFunc → Bool) (hg : IsFn Tryz.prog g) (h : Hp) (hlen : xs.list.length < 1000000)
  (hc : ∀ x ∈ xs.list, ∀ h', Wid h h' → Qt Tryz.prog F h' (.bool (p x)) g ([.agg (LFunc.cells x)] ++ cap)) :
  Qt Tryz.prog F h (.int .i64 (idxP p xs.list)) q1p [xs.av LFunc.cells, .fn (.func g) [] cap] := by
 refine CallsT.body hP q0e q3Z rfl rfl ?_
 refine TW.seq (TW.reg hP (by simp <;> rfl) ?_)
 dsimp only [goK, q0a, q0f, q0d]
 refine TW.seq (TW.seq (TW.reg hP (by simp <;> rfl) ?_))
 dsimp only [goK, q0a, q0f, q0d]
 refine TW.block (TW.loopL (fun i : Nat => [(0, xs.av LFunc.cells), (1, .fn (.func g) [] cap), (7, .int .i64 xs.list.length), (8, .int .i64 (i : Nat))]) (fun i k => i ≤ xs.list.length ∧ (∀ j (hj : j < i) (hl : j < xs.list.length), p (xs.list[j]) = false) ∧ Wid h k) (fun i => xs.list.length - i) 0 (by repeat' first | exact q0c | refine q0b (by simp) ?_) ⟨Nat.zero_le _, fun j hj => absurd hj (Nat.not_lt_zero _), .refl _⟩ ?_)
 rintro i k ⟨hi, hno, hw⟩
 refine TW.seq (TW.reg hP (by simp <;> rfl) ?_)
 dsimp only [goK, q0a, q0f, q0d]
 refine TW.seq (TW.cond hP rfl (fun hc' => TW.skip ?_) (fun hc' => TW.exit ?_))
 ·have hi' : i < xs.list.length := by simpa using hc'
  have hx : xs.list[i]? = some xs.list[i] := List.getElem?_eq_getElem hi'
  have hav := q0z (e := LFunc.cells) (show 0 < xs.list.length by omega)
  dsimp only [q0a]
  refine TW.seq (TW.block (TW.seq (TW.reg hP (by simp <;> rfl) ?_)))
  dsimp only [goK, q0a]
  refine TW.seq (TW.reg hP (by simp [hx, hav] <;> rfl) ?_)
  dsimp only [goK, q0a, q0f, q0d]
  refine TO.qcall hP hg (hc xs.list[i] (List.getElem_mem hi') k hw) (by simp) rfl rfl rfl rfl fun k' hk' => ?_
  refine TO.runs hP (by simp <;> rfl) ?_
  dsimp only [goK, q0a, q0f, q0d]
  refine TW.cond hP rfl (fun hp => ?_) (fun hp => TW.skip ?_)
  ·refine TW.seq (TW.reg hP (by simp <;> rfl) ?_)
   dsimp only [goK, q0a, q0f, q0d]
   refine TW.ret ⟨.inr rfl, k', _, rfl, rfl, ?_, hw.trans hk'⟩
   simp only [q0h, idxP]
   rw [List.findIdx?_eq_some_iff_getElem.2 ⟨hi', hp, fun j hj => by simp [hno j hj (by omega)]⟩]
  ·dsimp only [q0f, q0a]
   refine TW.reg hP (by simp; simp (disch := omega) only [bAdd]; simp <;> rfl) ?_
   dsimp only [goK, q0a, q0f, q0d]
   refine ⟨i + 1, by omega, rfl, ?_, by omega, fun j hj hl => ?_, hw.trans hk'⟩
   ·repeat' first | exact q0c | refine q0b (by simp [hav]) ?_
   ·by_cases he : j = i
    ·subst he; exact hp
    ·exact hno j (by omega) hl
 ·have hi' : ¬ i < xs.list.length := by simpa using hc'
  dsimp only [q0a, q0d, q0f]
  refine TW.seq (TW.reg hP (by simp <;> rfl) ?_)
  dsimp only [goK, q0a, q0f, q0d]
  refine TW.ret ⟨.inr rfl, k, _, rfl, rfl, ?_, hw⟩
  simp only [q0h, idxP]
  rw [List.findIdx?_eq_none_iff.2 fun x hx => by
   obtain ⟨j, hj, rfl⟩ := List.getElem_of_mem hx
   exact hno j (by omega) hj]
theorem ContainsFunc_funcs (hP : POk Tryz.prog F gl K) (xs : Sl LFunc) (g : FuncId) (cap : List AV) (p : LFunc → Bool) (hg : IsFn Tryz.prog g) (h : Hp) (hlen : xs.list.length < 1000000)
  (hc : ∀ x ∈ xs.list, ∀ h', Wid h h' → Qt Tryz.prog F h' (.bool (p x)) g ([.agg (LFunc.cells x)] ++ cap)) :
  Qt Tryz.prog F h (.bool (xs.list.any p)) q1d [xs.av LFunc.cells, .fn (.func g) [] cap] := by
 refine CallsT.body hP q0e q3w rfl rfl ?_
 refine TW.seq (TW.reg hP (by simp <;> rfl) ?_)
 dsimp only [goK, q0a, q0f, q0d]
 refine TW.seq (TW.reg hP (by simp <;> rfl) ?_)
 dsimp only [goK, q0a, q0f, q0d]
 refine TO.qcall hP q3Y (IndexFunc_funcs hP xs g cap p hg h hlen hc) (by simp) rfl rfl rfl rfl fun k hk => ?_
 refine TO.runs hP (by simp <;> rfl) ?_
 dsimp only [goK, q0a, q0f, q0d]
 refine TW.ret ⟨.inr rfl, k, _, rfl, rfl, ?_, hk⟩
 rw [← q9A]; rfl
theorem IndexFunc_blocks (hP : POk Tryz.prog F gl K) (xs : Sl LBlock) (g : FuncId) (cap : List AV) (p : LBlock → Bool) (hg : IsFn Tryz.prog g) (h : Hp) (hlen : xs.list.length < 1000000)
  (hc : ∀ x ∈ xs.list, ∀ h', Wid h h' → Qt Tryz.prog F h' (.bool (p x)) g ([.agg (LBlock.cells x)] ++ cap)) :
  Qt Tryz.prog F h (.int .i64 (idxP p xs.list)) q1g [xs.av LBlock.cells, .fn (.func g) [] cap] := by
 refine CallsT.body hP q0e q3E rfl rfl ?_
 refine TW.seq (TW.reg hP (by simp <;> rfl) ?_)
 dsimp only [goK, q0a, q0f, q0d]
 refine TW.seq (TW.seq (TW.reg hP (by simp <;> rfl) ?_))
 dsimp only [goK, q0a, q0f, q0d]
 refine TW.block (TW.loopL (fun i : Nat => [(0, xs.av LBlock.cells), (1, .fn (.func g) [] cap), (7, .int .i64 xs.list.length), (8, .int .i64 (i : Nat))]) (fun i k => i ≤ xs.list.length ∧ (∀ j (hj : j < i) (hl : j < xs.list.length), p (xs.list[j]) = false) ∧ Wid h k) (fun i => xs.list.length - i) 0 (by repeat' first | exact q0c | refine q0b (by simp) ?_) ⟨Nat.zero_le _, fun j hj => absurd hj (Nat.not_lt_zero _), .refl _⟩ ?_)
 rintro i k ⟨hi, hno, hw⟩
 refine TW.seq (TW.reg hP (by simp <;> rfl) ?_)
 dsimp only [goK, q0a, q0f, q0d]
 refine TW.seq (TW.cond hP rfl (fun hc' => TW.skip ?_) (fun hc' => TW.exit ?_))
 ·have hi' : i < xs.list.length := by simpa using hc'
  have hx : xs.list[i]? = some xs.list[i] := List.getElem?_eq_getElem hi'
  have hav := q0z (e := LBlock.cells) (show 0 < xs.list.length by omega)
  dsimp only [q0a]
  refine TW.seq (TW.block (TW.seq (TW.reg hP (by simp <;> rfl) ?_)))
  dsimp only [goK, q0a]
  refine TW.seq (TW.reg hP (by simp [hx, hav] <;> rfl) ?_)
  dsimp only [goK, q0a, q0f, q0d]
  refine TO.qcall hP hg (hc xs.list[i] (List.getElem_mem hi') k hw) (by simp) rfl rfl rfl rfl fun k' hk' => ?_
  refine TO.runs hP (by simp <;> rfl) ?_
  dsimp only [goK, q0a, q0f, q0d]
  refine TW.cond hP rfl (fun hp => ?_) (fun hp => TW.skip ?_)
  ·refine TW.seq (TW.reg hP (by simp <;> rfl) ?_)
   dsimp only [goK, q0a, q0f, q0d]
   refine TW.ret ⟨.inr rfl, k', _, rfl, rfl, ?_, hw.trans hk'⟩
   simp only [q0h, idxP]
   rw [List.findIdx?_eq_some_iff_getElem.2 ⟨hi', hp, fun j hj => by simp [hno j hj (by omega)]⟩]
  ·dsimp only [q0f, q0a]
   refine TW.reg hP (by simp; simp (disch := omega) only [bAdd]; simp <;> rfl) ?_
   dsimp only [goK, q0a, q0f, q0d]
   refine ⟨i + 1, by omega, rfl, ?_, by omega, fun j hj hl => ?_, hw.trans hk'⟩
   ·repeat' first | exact q0c | refine q0b (by simp [hav]) ?_
   ·by_cases he : j = i
    ·subst he; exact hp
    ·exact hno j (by omega) hl
 ·have hi' : ¬ i < xs.list.length := by simpa using hc'
  dsimp only [q0a, q0d, q0f]
  refine TW.seq (TW.reg hP (by simp <;> rfl) ?_)
  dsimp only [goK, q0a, q0f, q0d]
  refine TW.ret ⟨.inr rfl, k, _, rfl, rfl, ?_, hw⟩
  simp only [q0h, idxP]
  rw [List.findIdx?_eq_none_iff.2 fun x hx => by
   obtain ⟨j, hj, rfl⟩ := List.getElem_of_mem hx
   exact hno j (by omega) hj]
theorem z0Z (hP : POk Tryz.prog F gl K) (xs : Sl LBlock) (g : FuncId) (cap : List AV) (p : LBlock → Bool) (hg : IsFn Tryz.prog g) (h : Hp) (hlen : xs.list.length < 1000000)
  (hc : ∀ x ∈ xs.list, ∀ h', Wid h h' → Qt Tryz.prog F h' (.bool (p x)) g ([.agg (LBlock.cells x)] ++ cap)) :
  Qt Tryz.prog F h (.bool (xs.list.any p)) q0W [xs.av LBlock.cells, .fn (.func g) [] cap] := by
 refine CallsT.body hP q0e q3f rfl rfl ?_
 refine TW.seq (TW.reg hP (by simp <;> rfl) ?_)
 dsimp only [goK, q0a, q0f, q0d]
 refine TW.seq (TW.reg hP (by simp <;> rfl) ?_)
 dsimp only [goK, q0a, q0f, q0d]
 refine TO.qcall hP q3D (IndexFunc_blocks hP xs g cap p hg h hlen hc) (by simp) rfl rfl rfl rfl fun k hk => ?_
 refine TO.runs hP (by simp <;> rfl) ?_
 dsimp only [goK, q0a, q0f, q0d]
 refine TW.ret ⟨.inr rfl, k, _, rfl, rfl, ?_, hk⟩
 rw [← q9A]; rfl
theorem IndexFunc_inss (hP : POk Tryz.prog F gl K) (xs : Sl LIns) (g : FuncId) (cap : List AV) (p : LIns → Bool) (hg : IsFn Tryz.prog g) (h : Hp) (hlen : xs.list.length < 1000000)
  (hc : ∀ x ∈ xs.list, ∀ h', Wid h h' → Qt Tryz.prog F h' (.bool (p x)) g ([.agg (LIns.cells x)] ++ cap)) :
  Qt Tryz.prog F h (.int .i64 (idxP p xs.list)) q1t [xs.av LIns.cells, .fn (.func g) [] cap] := by
 refine CallsT.body hP q0e q4B rfl rfl ?_
 refine TW.seq (TW.reg hP (by simp <;> rfl) ?_)
 dsimp only [goK, q0a, q0f, q0d]
 refine TW.seq (TW.seq (TW.reg hP (by simp <;> rfl) ?_))
 dsimp only [goK, q0a, q0f, q0d]
 refine TW.block (TW.loopL (fun i : Nat => [(0, xs.av LIns.cells), (1, .fn (.func g) [] cap), (7, .int .i64 xs.list.length), (8, .int .i64 (i : Nat))]) (fun i k => i ≤ xs.list.length ∧ (∀ j (hj : j < i) (hl : j < xs.list.length), p (xs.list[j]) = false) ∧ Wid h k) (fun i => xs.list.length - i) 0 (by repeat' first | exact q0c | refine q0b (by simp) ?_) ⟨Nat.zero_le _, fun j hj => absurd hj (Nat.not_lt_zero _), .refl _⟩ ?_)
 rintro i k ⟨hi, hno, hw⟩
 refine TW.seq (TW.reg hP (by simp <;> rfl) ?_)
 dsimp only [goK, q0a, q0f, q0d]
 refine TW.seq (TW.cond hP rfl (fun hc' => TW.skip ?_) (fun hc' => TW.exit ?_))
 ·have hi' : i < xs.list.length := by simpa using hc'
  have hx : xs.list[i]? = some xs.list[i] := List.getElem?_eq_getElem hi'
  have hav := q0z (e := LIns.cells) (show 0 < xs.list.length by omega)
  dsimp only [q0a]
  refine TW.seq (TW.block (TW.seq (TW.reg hP (by simp <;> rfl) ?_)))
  dsimp only [goK, q0a]
  refine TW.seq (TW.reg hP (by simp [hx, hav] <;> rfl) ?_)
  dsimp only [goK, q0a, q0f, q0d]
  refine TO.qcall hP hg (hc xs.list[i] (List.getElem_mem hi') k hw) (by simp) rfl rfl rfl rfl fun k' hk' => ?_
  refine TO.runs hP (by simp <;> rfl) ?_
  dsimp only [goK, q0a, q0f, q0d]
  refine TW.cond hP rfl (fun hp => ?_) (fun hp => TW.skip ?_)
  ·refine TW.seq (TW.reg hP (by simp <;> rfl) ?_)
   dsimp only [goK, q0a, q0f, q0d]
   refine TW.ret ⟨.inr rfl, k', _, rfl, rfl, ?_, hw.trans hk'⟩
   simp only [q0h, idxP]
   rw [List.findIdx?_eq_some_iff_getElem.2 ⟨hi', hp, fun j hj => by simp [hno j hj (by omega)]⟩]
  ·dsimp only [q0f, q0a]
   refine TW.reg hP (by simp; simp (disch := omega) only [bAdd]; simp <;> rfl) ?_
   dsimp only [goK, q0a, q0f, q0d]
   refine ⟨i + 1, by omega, rfl, ?_, by omega, fun j hj hl => ?_, hw.trans hk'⟩
   ·repeat' first | exact q0c | refine q0b (by simp [hav]) ?_
   ·by_cases he : j = i
    ·subst he; exact hp
    ·exact hno j (by omega) hl
 ·have hi' : ¬ i < xs.list.length := by simpa using hc'
  dsimp only [q0a, q0d, q0f]
  refine TW.seq (TW.reg hP (by simp <;> rfl) ?_)
  dsimp only [goK, q0a, q0f, q0d]
  refine TW.ret ⟨.inr rfl, k, _, rfl, rfl, ?_, hw⟩
  simp only [q0h, idxP]
  rw [List.findIdx?_eq_none_iff.2 fun x hx => by
   obtain ⟨j, hj, rfl⟩ := List.getElem_of_mem hx
   exact hno j (by omega) hj]
theorem ContainsFunc_inss (hP : POk Tryz.prog F gl K) (xs : Sl LIns) (g : FuncId) (cap : List AV) (p : LIns → Bool) (hg : IsFn Tryz.prog g) (h : Hp) (hlen : xs.list.length < 1000000)
  (hc : ∀ x ∈ xs.list, ∀ h', Wid h h' → Qt Tryz.prog F h' (.bool (p x)) g ([.agg (LIns.cells x)] ++ cap)) :
  Qt Tryz.prog F h (.bool (xs.list.any p)) q1l [xs.av LIns.cells, .fn (.func g) [] cap] := by
 refine CallsT.body hP q0e q3S rfl rfl ?_
 refine TW.seq (TW.reg hP (by simp <;> rfl) ?_)
 dsimp only [goK, q0a, q0f, q0d]
 refine TW.seq (TW.reg hP (by simp <;> rfl) ?_)
 dsimp only [goK, q0a, q0f, q0d]
 refine TO.qcall hP q4z (IndexFunc_inss hP xs g cap p hg h hlen hc) (by simp) rfl rfl rfl rfl fun k hk => ?_
 refine TO.runs hP (by simp <;> rfl) ?_
 dsimp only [goK, q0a, q0f, q0d]
 refine TW.ret ⟨.inr rfl, k, _, rfl, rfl, ?_, hk⟩
 rw [← q9A]; rfl
def q1U (most : Int) (l : List Int) : Bool := l.all fun n => decide (0 ≤ n) && decide (n < most)
theorem there1 (hP : POk Tryz.prog F gl K) (most n : Int) (r : Nat) (e : TypeId) (h : Hp) (hr : h.get r = some (.cells e [.int .i64 most])) :
  Qt Tryz.prog F h (.bool (decide (n < 0) || decide (most ≤ n))) q4S [.int .i64 n, .ptr r 0] := by
 refine CallsT.body hP q0e E_types_there_1 rfl rfl ?_
 refine TW.seq (TW.reg hP (by simp <;> rfl) ?_)
 dsimp only [goK, q0a, q0f, q0d]
 by_cases hn : n < 0
 ·refine TW.seq (TW.reg hP (by simp [hn, hr] <;> rfl) ?_)
  dsimp only [goK, q0a, q0f, q0d]
  refine TW.ret ⟨.inr rfl, h, _, rfl, rfl, ?_, .refl _⟩
  simp [q0h, hn]
 ·refine TW.seq (TW.reg hP (by simp [hn, hr] <;> rfl) ?_)
  dsimp only [goK, q0a, q0f, q0d]
  refine TW.ret ⟨.inr rfl, h, _, rfl, rfl, ?_, .refl _⟩
  simp [q0h, hn]
def scalarS (x : LType) : Bool := decide (1 ≤ x.kind) && decide (x.kind ≤ 3)
theorem scalar_pure (hP : POk Tryz.prog F gl K) (x : LType) : q0y Tryz.prog F q7i [.agg x.cells] (.bool (scalarS x)) := by
 refine CallsT.pure (O := fun v _ => v = .bool (scalarS x)) (k := 1) (by simp) ?_ (fun v h e => by subst e; rfl)
 refine CallsT.body hP q0e E_types_scalar rfl rfl ?_
 refine TW.seq (TW.reg hP (by simp <;> rfl) ?_)
 dsimp only [goK, q0a, q0f, q0d]
 by_cases h1 : 1 ≤ x.kind
 ·refine TW.seq (TW.reg hP (by simp [h1] <;> rfl) ?_)
  dsimp only [goK, q0a, q0f, q0d]
  refine TW.ret ⟨.inr rfl, _, _, rfl, rfl, ?_⟩
  simp [q0h, scalarS, h1]
 ·refine TW.seq (TW.reg hP (by simp [h1] <;> rfl) ?_)
  dsimp only [goK, q0a, q0f, q0d]
  refine TW.ret ⟨.inr rfl, _, _, rfl, rfl, ?_⟩
  simp [q0h, scalarS, h1]
def sumN : List Int → Int
 | [] => 0
 | a :: l => a + sumN l
theorem sumN_app (l k : List Int) : sumN (l ++ k) = sumN l + sumN k := by
 induction l with
 | nil => simp [sumN]
 | cons a l ih => simp [sumN, ih]; omega
theorem sumN_take (l : List Int) (i : Nat) (h : i < l.length) : sumN (l.take (i + 1)) = sumN (l.take i) + l[i] := by
 rw [List.take_succ_eq_append_getElem h, sumN_app]
 simp [sumN]
theorem sumN_bnd (c : Int) (hc : 0 ≤ c) : ∀ (l : List Int), (∀ x ∈ l, 0 ≤ x ∧ x ≤ c) → 0 ≤ sumN l ∧ sumN l ≤ c * l.length
  | [], _ => by simp [sumN]
  | a :: l, h => by
    obtain ⟨h1, h2⟩ := sumN_bnd c hc l fun x hx => h x (List.mem_cons_of_mem _ hx)
    obtain ⟨h3, h4⟩ := h a List.mem_cons_self
    refine ⟨by simp only [sumN]; omega, ?_⟩
    simp only [sumN, List.length_cons, Int.natCast_add, Int.mul_add]
    omega
theorem q0Q : slT (Ctx.of Tryz.prog gl K) q0u q0C 1 = true := by simp [slT]
theorem sum_qt (hP : POk Tryz.prog F gl K) (h : Hp) (v : AV) (xs : List Int) (hr : RdI h v xs) (hlen : xs.length < 1000000) (hx : ∀ x ∈ xs, 0 ≤ x ∧ x ≤ 1000000) : Qt Tryz.prog F h (.int .i64 (sumN xs)) z0C [v] := by
 have hl := fun g => hr.lenOf (q0Q (gl := gl) (K := K)) g
 dsimp only [q0u, q0C] at hl
 refine CallsT.body hP q0e E_types_sum rfl rfl ?_
 refine TW.seq (TW.reg hP (by simp <;> rfl) ?_)
 dsimp only [goK, q0a, q0f, q0d]
 refine TW.seq (TW.seq (TW.reg hP (by simp [hl] <;> rfl) ?_))
 dsimp only [goK, q0a, q0f, q0d]
 refine TW.block (TW.loopL (fun i : Nat => [(2, .int .i64 (sumN (xs.take i))), (5, v), (6, .int .i64 xs.length), (7, .int .i64 (i : Nat))]) (fun i k => i ≤ xs.length ∧ Wid h k) (fun i => xs.length - i) 0 (by repeat' first | exact q0c | refine q0b (by simp [sumN]) ?_) ⟨Nat.zero_le _, .refl _⟩ ?_)
 rintro i k ⟨hi, hw⟩
 refine TW.seq (TW.reg hP (by simp <;> rfl) ?_)
 dsimp only [goK, q0a, q0f, q0d]
 refine TW.seq (TW.cond hP rfl (fun hc' => TW.skip ?_) (fun hc' => TW.exit ?_))
 ·have hi' : i < xs.length := by simpa using hc'
  obtain ⟨p, hp1, hp2⟩ := (hr.wid hw).at' (q0Q (gl := gl) (K := K)) (by simp) (q := .i64) hi'
  have hp2 := hp2 k (.refl _)
  dsimp only [q0u, q0C] at hp1 hp2
  have h1 := sumN_bnd 1000000 (by omega) (xs.take i) fun x hx' => hx x (List.mem_of_mem_take hx')
  have h2 := hx xs[i] (List.getElem_mem hi')
  have h3 : (xs.take i).length ≤ 1000000 := by simp; omega
  have h4 := sumN_take xs i hi'
  dsimp only [q0a]
  refine TW.seq (TW.block (TW.seq (TW.reg hP (by simp [hp1, hp2] <;> rfl) ?_)))
  dsimp only [goK, q0a]
  refine TW.reg hP (by simp; simp (disch := omega) only [bAdd]; simp <;> rfl) ?_
  dsimp only [goK, q0a, q0f, q0d]
  refine TW.reg hP (by simp; simp (disch := omega) only [bAdd]; simp <;> rfl) ?_
  dsimp only [goK, q0a, q0f, q0d]
  refine ⟨i + 1, by omega, rfl, ?_, by omega, hw⟩
  repeat' first | exact q0c | refine q0b (by simp [h4]) ?_
 ·have hi' : i = xs.length := by simp at hc'; omega
  subst hi'
  dsimp only [q0a, q0d, q0f]
  refine TW.seq (TW.reg hP (by simp <;> rfl) ?_)
  dsimp only [goK, q0a, q0f, q0d]
  refine TW.ret ⟨.inr rfl, k, _, rfl, rfl, ?_, hw⟩
  simp [q0h]
def q2E (x : LType) : Bool :=
 if x.kind = 1 then decide (x.elem = 0) && (decide (x.many = 0) && decide (x.parts.list.length = 0))
 else if x.kind = 2 then decide (x.many = 0) && decide (x.parts.list.length = 0)
 else if x.kind = 4 then decide (x.elem = 0) && decide (x.many = 0)
 else if x.kind = 3 then decide (x.many = 0)
 else if x.kind = 5 then decide (x.parts.list.length = 0) else true
theorem plain_pure (hP : POk Tryz.prog F gl K) (x : LType) : q0y Tryz.prog F q8c [.agg x.cells] (.bool (q2E x)) := by
 refine CallsT.pure (O := fun v _ => v = .bool (q2E x)) (k := 1) (by simp) ?_ (fun v h e => by subst e; rfl)
 refine CallsT.body hP q0e E_types_plain rfl rfl ?_
 by_cases h1 : x.kind = 1
 ·by_cases he : x.elem = 0
  ·by_cases hm : x.many = 0
   ·repeat' first | refine TW.seq ?_ | refine TW.block ?_ | refine TW.exit ?_ | refine TW.condT hP rfl ?_ | (refine TW.reg hP (by simp [h1, he, hm] <;> rfl) ?_; dsimp only [goK]) | (refine TW.drawQ hP [] (fun e he => by cases he) (by kernel_rfl) (by simp <;> rfl) ?_; dsimp only) | simp only [q0a]
    refine TW.ret ⟨.inr rfl, _, _, rfl, rfl, ?_⟩
    simp [q0h, q2E, h1, he, hm]
   ·repeat' first | refine TW.seq ?_ | refine TW.block ?_ | refine TW.exit ?_ | refine TW.condT hP rfl ?_ | (refine TW.reg hP (by simp [h1, he] <;> rfl) ?_; dsimp only [goK]) | (refine TW.drawQ hP [] (fun e he => by cases he) (by kernel_rfl) (by simp [hm] <;> rfl) ?_; dsimp only) | simp only [q0a]
    refine TW.ret ⟨.inr rfl, _, _, rfl, rfl, ?_⟩
    simp [q0h, q2E, h1, he, hm]
  ·by_cases hm : x.many = 0
   ·repeat' first | refine TW.seq ?_ | refine TW.block ?_ | refine TW.exit ?_ | refine TW.condT hP rfl ?_ | (refine TW.reg hP (by simp [h1, he, hm] <;> rfl) ?_; dsimp only [goK]) | (refine TW.drawQ hP [] (fun e he => by cases he) (by kernel_rfl) (by simp <;> rfl) ?_; dsimp only) | simp only [q0a]
    refine TW.ret ⟨.inr rfl, _, _, rfl, rfl, ?_⟩
    simp [q0h, q2E, h1, he, hm]
   ·repeat' first | refine TW.seq ?_ | refine TW.block ?_ | refine TW.exit ?_ | refine TW.condT hP rfl ?_ | (refine TW.reg hP (by simp [h1, he] <;> rfl) ?_; dsimp only [goK]) | (refine TW.drawQ hP [] (fun e he => by cases he) (by kernel_rfl) (by simp [hm] <;> rfl) ?_; dsimp only) | simp only [q0a]
    refine TW.ret ⟨.inr rfl, _, _, rfl, rfl, ?_⟩
    simp [q0h, q2E, h1, he, hm]
 ·by_cases h2 : x.kind = 2
  ·by_cases hm : x.many = 0
   ·repeat' first | refine TW.seq ?_ | refine TW.block ?_ | refine TW.skip ?_ | refine TW.exit ?_ | refine TW.condT hP rfl ?_ | refine TW.condF hP rfl ?_ | (refine TW.reg hP (by simp [h2, hm] <;> rfl) ?_; dsimp only [goK]) | (refine TW.drawQ hP [] (fun e he => by cases he) (by kernel_rfl) (by simp <;> rfl) ?_; dsimp only) | simp only [q0a]
    refine TW.ret ⟨.inr rfl, _, _, rfl, rfl, ?_⟩
    simp [q0h, q2E, h2, hm]
   ·repeat' first | refine TW.seq ?_ | refine TW.block ?_ | refine TW.skip ?_ | refine TW.exit ?_ | refine TW.condT hP rfl ?_ | refine TW.condF hP rfl ?_ | (refine TW.reg hP (by simp [h2] <;> rfl) ?_; dsimp only [goK]) | (refine TW.drawQ hP [] (fun e he => by cases he) (by kernel_rfl) (by simp [hm] <;> rfl) ?_; dsimp only) | simp only [q0a]
    refine TW.ret ⟨.inr rfl, _, _, rfl, rfl, ?_⟩
    simp [q0h, q2E, h2, hm]
  ·by_cases h4 : x.kind = 4
   ·by_cases he : x.elem = 0
    ·by_cases hm : x.many = 0
     ·repeat' first | refine TW.seq ?_ | refine TW.block ?_ | refine TW.skip ?_ | refine TW.exit ?_ | refine TW.condT hP rfl ?_ | refine TW.condF hP rfl ?_ | (refine TW.reg hP (by simp [h4, he, hm] <;> rfl) ?_; dsimp only [goK]) | simp only [q0a]
      refine TW.ret ⟨.inr rfl, _, _, rfl, rfl, ?_⟩
      simp [q0h, q2E, h4, he, hm]
     ·repeat' first | refine TW.seq ?_ | refine TW.block ?_ | refine TW.skip ?_ | refine TW.exit ?_ | refine TW.condT hP rfl ?_ | refine TW.condF hP rfl ?_ | (refine TW.reg hP (by simp [h4, he, hm] <;> rfl) ?_; dsimp only [goK]) | simp only [q0a]
      refine TW.ret ⟨.inr rfl, _, _, rfl, rfl, ?_⟩
      simp [q0h, q2E, h4, he, hm]
    ·by_cases hm : x.many = 0
     ·repeat' first | refine TW.seq ?_ | refine TW.block ?_ | refine TW.skip ?_ | refine TW.exit ?_ | refine TW.condT hP rfl ?_ | refine TW.condF hP rfl ?_ | (refine TW.reg hP (by simp [h4, he, hm] <;> rfl) ?_; dsimp only [goK]) | simp only [q0a]
      refine TW.ret ⟨.inr rfl, _, _, rfl, rfl, ?_⟩
      simp [q0h, q2E, h4, he, hm]
     ·repeat' first | refine TW.seq ?_ | refine TW.block ?_ | refine TW.skip ?_ | refine TW.exit ?_ | refine TW.condT hP rfl ?_ | refine TW.condF hP rfl ?_ | (refine TW.reg hP (by simp [h4, he, hm] <;> rfl) ?_; dsimp only [goK]) | simp only [q0a]
      refine TW.ret ⟨.inr rfl, _, _, rfl, rfl, ?_⟩
      simp [q0h, q2E, h4, he, hm]
   ·by_cases h3 : x.kind = 3
    ·by_cases hm : x.many = 0
     ·repeat' first | refine TW.seq ?_ | refine TW.block ?_ | refine TW.skip ?_ | refine TW.exit ?_ | refine TW.condT hP rfl ?_ | refine TW.condF hP rfl ?_ | (refine TW.reg hP (by simp [h3, hm] <;> rfl) ?_; dsimp only [goK]) | simp only [q0a]
      refine TW.ret ⟨.inr rfl, _, _, rfl, rfl, ?_⟩
      simp [q0h, q2E, h3, hm]
     ·repeat' first | refine TW.seq ?_ | refine TW.block ?_ | refine TW.skip ?_ | refine TW.exit ?_ | refine TW.condT hP rfl ?_ | refine TW.condF hP rfl ?_ | (refine TW.reg hP (by simp [h3, hm] <;> rfl) ?_; dsimp only [goK]) | simp only [q0a]
      refine TW.ret ⟨.inr rfl, _, _, rfl, rfl, ?_⟩
      simp [q0h, q2E, h3, hm]
    ·by_cases h5 : x.kind = 5
     ·repeat' first | refine TW.seq ?_ | refine TW.block ?_ | refine TW.skip ?_ | refine TW.exit ?_ | refine TW.condT hP rfl ?_ | refine TW.condF hP rfl ?_ | (refine TW.reg hP (by simp [h5] <;> rfl) ?_; dsimp only [goK]) | simp only [q0a]
      refine TW.ret ⟨.inr rfl, _, _, rfl, rfl, ?_⟩
      simp [q0h, q2E, h5]
     ·repeat' first | refine TW.seq ?_ | refine TW.block ?_ | refine TW.skip ?_ | refine TW.exit ?_ | refine TW.condF hP rfl ?_ | (refine TW.reg hP (by simp [h1, h2, h4, h3, h5] <;> rfl) ?_; dsimp only [goK]) | simp only [q0a]
      refine TW.ret ⟨.inr rfl, _, _, rfl, rfl, ?_⟩
      simp [q0h, q2E, h1, h2, h4, h3, h5]
theorem IndexFunc_rd (hP : POk Tryz.prog F gl K) (v : AV) (xs : List Int) (g : FuncId) (cap : List AV) (p : Int → Bool) (hg : IsFn Tryz.prog g) (h : Hp) (hr : RdI h v xs) (hlen : xs.length < 1000000)
  (hc : ∀ x ∈ xs, ∀ h', Wid h h' → Qt Tryz.prog F h' (.bool (p x)) g ([.int .i64 x] ++ cap)) :
  Qt Tryz.prog F h (.int .i64 (idxP p xs)) q1E [v, .fn (.func g) [] cap] := by
 have hl := fun g => hr.lenOf (q0Q (gl := gl) (K := K)) g
 dsimp only [q0u, q0C] at hl
 refine CallsT.body hP q0e q3I rfl rfl ?_
 refine TW.seq (TW.reg hP (by simp <;> rfl) ?_)
 dsimp only [goK, q0a, q0f, q0d]
 refine TW.seq (TW.seq (TW.reg hP (by simp [hl] <;> rfl) ?_))
 dsimp only [goK, q0a, q0f, q0d]
 refine TW.block (TW.loopL (fun i : Nat => [(0, v), (1, .fn (.func g) [] cap), (7, .int .i64 xs.length), (8, .int .i64 (i : Nat))]) (fun i k => i ≤ xs.length ∧ (∀ j (hj : j < i) (hl : j < xs.length), p (xs[j]) = false) ∧ Wid h k) (fun i => xs.length - i) 0 (by repeat' first | exact q0c | refine q0b (by simp) ?_) ⟨Nat.zero_le _, fun j hj => absurd hj (Nat.not_lt_zero _), .refl _⟩ ?_)
 rintro i k ⟨hi, hno, hw⟩
 refine TW.seq (TW.reg hP (by simp <;> rfl) ?_)
 dsimp only [goK, q0a, q0f, q0d]
 refine TW.seq (TW.cond hP rfl (fun hc' => TW.skip ?_) (fun hc' => TW.exit ?_))
 ·have hi' : i < xs.length := by simpa using hc'
  obtain ⟨q, hp1, hp2⟩ := (hr.wid hw).at' (q0Q (gl := gl) (K := K)) (by simp) (q := .i64) hi'
  have hp2 := hp2 k (.refl _)
  dsimp only [q0u, q0C] at hp1 hp2
  dsimp only [q0a]
  refine TW.seq (TW.block (TW.seq (TW.reg hP (by simp <;> rfl) ?_)))
  dsimp only [goK, q0a]
  refine TW.seq (TW.reg hP (by simp [hp1, hp2] <;> rfl) ?_)
  dsimp only [goK, q0a, q0f, q0d]
  refine TO.qcall hP hg (hc xs[i] (List.getElem_mem hi') k hw) (by simp) rfl rfl rfl rfl fun k' hk' => ?_
  refine TO.runs hP (by simp <;> rfl) ?_
  dsimp only [goK, q0a, q0f, q0d]
  refine TW.cond hP rfl (fun hp => ?_) (fun hp => TW.skip ?_)
  ·refine TW.seq (TW.reg hP (by simp <;> rfl) ?_)
   dsimp only [goK, q0a, q0f, q0d]
   refine TW.ret ⟨.inr rfl, k', _, rfl, rfl, ?_, hw.trans hk'⟩
   simp only [q0h, idxP]
   rw [List.findIdx?_eq_some_iff_getElem.2 ⟨hi', hp, fun j hj => by simp [hno j hj (by omega)]⟩]
  ·dsimp only [q0f, q0a]
   refine TW.reg hP (by simp; simp (disch := omega) only [bAdd]; simp <;> rfl) ?_
   dsimp only [goK, q0a, q0f, q0d]
   refine ⟨i + 1, by omega, rfl, ?_, by omega, fun j hj hl => ?_, hw.trans hk'⟩
   ·repeat' first | exact q0c | refine q0b (by simp) ?_
   ·by_cases he : j = i
    ·subst he; exact hp
    ·exact hno j (by omega) hl
 ·have hi' : ¬ i < xs.length := by simpa using hc'
  dsimp only [q0a, q0d, q0f]
  refine TW.seq (TW.reg hP (by simp <;> rfl) ?_)
  dsimp only [goK, q0a, q0f, q0d]
  refine TW.ret ⟨.inr rfl, k, _, rfl, rfl, ?_, hw⟩
  simp only [q0h, idxP]
  rw [List.findIdx?_eq_none_iff.2 fun x hx => by
   obtain ⟨j, hj, rfl⟩ := List.getElem_of_mem hx
   exact hno j (by omega) hj]
theorem q6G (hP : POk Tryz.prog F gl K) (v : AV) (xs : List Int) (g : FuncId) (cap : List AV) (p : Int → Bool) (hg : IsFn Tryz.prog g) (h : Hp) (hr : RdI h v xs) (hlen : xs.length < 1000000)
  (hc : ∀ x ∈ xs, ∀ h', Wid h h' → Qt Tryz.prog F h' (.bool (p x)) g ([.int .i64 x] ++ cap)) :
  Qt Tryz.prog F h (.bool (xs.any p)) q1r [v, .fn (.func g) [] cap] := by
 refine CallsT.body hP q0e q2W rfl rfl ?_
 refine TW.seq (TW.reg hP (by simp <;> rfl) ?_)
 dsimp only [goK, q0a, q0f, q0d]
 refine TW.seq (TW.reg hP (by simp <;> rfl) ?_)
 dsimp only [goK, q0a, q0f, q0d]
 refine TO.qcall hP q3H (IndexFunc_rd hP v xs g cap p hg h hr hlen hc) (by simp) rfl rfl rfl rfl fun k hk => ?_
 refine TO.runs hP (by simp <;> rfl) ?_
 dsimp only [goK, q0a, q0f, q0d]
 refine TW.ret ⟨.inr rfl, k, _, rfl, rfl, ?_, hk⟩
 rw [← q9A]; rfl
theorem there_qt (hP : POk Tryz.prog F gl K) (h : Hp) (most : Int) (v : AV) (xs : List Int) (hr : RdI h v xs) (hlen : xs.length < 1000000) : Qt Tryz.prog F h (.bool (q1U most xs)) q8b [.int .i64 most, v] := by
 refine CallsT.body hP q0e E_types_there rfl rfl ?_
 refine TW.seq (TW.reg hP (by simp <;> rfl) ?_)
 dsimp only [goK, q0a, q0f, q0d]
 refine TW.seq (TW.reg hP (by simp <;> rfl) ?_)
 dsimp only [goK, q0a, q0f, q0d]
 have hw : Wid h (h.new (.cells q0C [.int .i64 most])) := (Wid.refl h).new _
 refine TO.qcall hP q0V (q6G hP v xs q4S [.ptr h.nx 0] (fun n => decide (n < 0) || decide (most ≤ n)) I_types_there_1 _ (hr.wid hw) hlen fun x _ h' hw => there1 hP most x h.nx q0C h' ((hw.at (o := .cells q0C [.int .i64 most]) (by simp) (by simp)))) (by simp) rfl rfl rfl rfl fun k hk => ?_
 refine TO.runs hP (by simp <;> rfl) ?_
 dsimp only [goK, q0a, q0f, q0d]
 refine TW.ret ⟨.inr rfl, k, _, rfl, rfl, ?_, hw.trans hk⟩
 simp only [q0h, q1U]
 congr 1
 rw [List.not_any_eq_all_not]
 congr 1
 funext n
 by_cases h1 : n < 0 <;> by_cases h2 : most ≤ n <;> simp [h1, h2] <;> omega
def scAt (t : List LType) (n : Int) : Bool := match t[n.toNat]? with | some y => scalarS y | none => false
def mayS (t : List LType) (k : Nat) (sz : List Int) : Int × Bool :=
  match t[k]? with
  | none => (0, false)
  | some x =>
    if x.kind = 1 then (1, q2E x)
    else if x.kind = 2 then (1, q2E x && q1U t.length [x.elem])
    else if x.kind = 3 then (1, q2E x && (decide (x.parts.list.length ≤ 4) && (q1U t.length (x.elem :: x.parts.list) && (x.elem :: x.parts.list).all (scAt t))))
    else if x.kind = 4 then (if q2E x && q1U k x.parts.list = true then
      let s := sumN (x.parts.list.map fun n => sz.getD n.toNat 0)
      (s, decide (0 < x.parts.list.length) && (decide (x.parts.list.length ≤ 8) && decide (s ≤ 32))) else (0, false))
    else if x.kind = 5 then (if q2E x && (q1U k [x.elem] && (decide (1 ≤ x.many) && decide (x.many ≤ 16))) = true then
      let s := x.many * sz.getD x.elem.toNat 0
      (s, decide (s ≤ 32)) else (0, false))
    else (1, false)
theorem may1 (hP : POk Tryz.prog F gl K) (t : Sl LType) (n : Int) (r : Nat) (e : TypeId) (h : Hp) (hr : h.get r = some (.cells e [t.av LType.cells])) (hn : 0 ≤ n) (hn2 : n < t.list.length) :
  Qt Tryz.prog F h (.bool (!scAt t.list n)) q6h [.int .i64 n, .ptr r 0] := by
 obtain ⟨i, rfl⟩ := Int.eq_ofNat_of_zero_le hn
 have hi : i < t.list.length := by omega
 have hx : t.list[i]? = some t.list[i] := List.getElem?_eq_getElem hi
 have hav := q0z (e := LType.cells) (show 0 < t.list.length by omega)
 refine CallsT.body hP q0e E_types_may_1 rfl rfl ?_
 refine TW.seq (TW.reg hP (by simp <;> rfl) ?_)
 dsimp only [goK, q0a, q0f, q0d]
 refine TW.seq (TW.reg hP (by simp [hr, hav, hx] <;> rfl) ?_)
 dsimp only [goK, q0a, q0f, q0d]
 refine TO.scall hP I_types_scalar (scalar_pure hP t.list[i]) (by simp) rfl rfl rfl rfl ?_
 refine TO.runs hP (by simp <;> rfl) ?_
 dsimp only [goK, q0a, q0f, q0d]
 refine TW.ret ⟨.inr rfl, h, _, rfl, rfl, ?_, .refl _⟩
 simp [q0h, scAt, hx]
end Go.Ax
