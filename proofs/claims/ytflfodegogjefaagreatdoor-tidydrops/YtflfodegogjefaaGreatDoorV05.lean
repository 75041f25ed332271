import Derived.Test.YtflfodegogjefaaGreatDoorV04
set_option linter.unusedSimpArgs false
set_option linter.unusedVariables false
noncomputable section
namespace Go.Ax
variable {C : Ctx} {h g : Hp}
def Agr (S : Nat → Prop) (h g : Hp) : Prop := ∀ r, S r → g.get r = h.get r
theorem Agr.refl {S : Nat → Prop} : Agr S h h := fun _ _ => rfl
def RdF (S : Nat → Prop) (h : Hp) (k : Nat) (v u : AV) : Prop := ∀ g, Agr S h g → frzV k g v = some u
def RdL (S : Nat → Prop) (h : Hp) (k : Nat) (l m : List AV) : Prop := ∀ g, Agr S h g → mapO (frzV k g) l = some m
def RdR (S : Nat → Prop) (h : Hp) (k : Nat) (l m : List (List AV)) : Prop := ∀ g, Agr S h g → mapO (mapO (frzV k g)) l = some m
variable {S S' : Nat → Prop} {k : Nat}
theorem RdF.now {v u : AV} (H : RdF S h k v u) : frzV k h v = some u := H h .refl
theorem RdF.mono {v u : AV} (H : RdF S h k v u) (hS : ∀ r, S r → S' r) (hg : Agr S h g) : RdF S' g k v u := fun g' hg' => H g' fun r hr => (hg' r (hS r hr)).trans (hg r hr)
theorem RdL.mono {v u : List AV} (H : RdL S h k v u) (hS : ∀ r, S r → S' r) (hg : Agr S h g) : RdL S' g k v u := fun g' hg' => H g' fun r hr => (hg' r (hS r hr)).trans (hg r hr)
theorem RdR.mono {v u : List (List AV)} (H : RdR S h k v u) (hS : ∀ r, S r → S' r) (hg : Agr S h g) : RdR S' g k v u := fun g' hg' => H g' fun r hr => (hg' r (hS r hr)).trans (hg r hr)
theorem RdL.nil : RdL S h k [] [] := fun _ _ => rfl
theorem RdL.cons {v u : AV} {l m : List AV} (H : RdF S h k v u) (J : RdL S h k l m) : RdL S h k (v :: l) (u :: m) := fun g hg => by
 simp only [mapO, H g hg, J g hg]
theorem RdR.nil : RdR S h k [] [] := fun _ _ => rfl
theorem mapO_snoc {α β : Type} {f : α → Option β} {x : α} {y : β} (hx : f x = some y) : ∀ {l : List α} {m : List β}, mapO f l = some m → mapO f (l ++ [x]) = some (m ++ [y])
  | [], m, e => by cases e; simp [mapO, hx]
  | a :: l, m, e => by
    unfold mapO at e
    split at e
    case h_2 => cases e
    rename_i b hb
    split at e
    case h_2 => cases e
    rename_i m' hm
    cases e
    simp [mapO, hb, mapO_snoc hx hm]
theorem mapO_len {α β : Type} {f : α → Option β} : ∀ {l : List α} {m : List β}, mapO f l = some m → m.length = l.length
  | [], m, e => by cases e; rfl
  | a :: l, m, e => by
    unfold mapO at e
    split at e
    case h_2 => cases e
    split at e
    case h_2 => cases e
    rename_i m' hm
    cases e
    simp [mapO_len hm]
theorem RdR.snoc {l m : List (List AV)} {a b : List AV} (H : RdR S h k l m) (J : RdL S h k a b) : RdR S h k (l ++ [a]) (m ++ [b]) := fun g hg => mapO_snoc (J g hg) (H g hg)
theorem RdR.len {l m : List (List AV)} (H : RdR S h k l m) : m.length = l.length := mapO_len (H h .refl)
theorem z_up {h : Hp} : h.z.up = h.up := by unfold Hp.up; rfl
theorem up_z {h : Hp} : h.up.z = h.z := by unfold Hp.up; rfl
theorem z_z {h : Hp} : h.z.z = h.z := rfl
theorem new_z {h : Hp} {o : AObj} : (h.up.new o).z = (h.new o).z := by unfold Hp.up; rfl
theorem put_z {h : Hp} {r : Nat} {o : AObj} : (h.up.put r o).z = (h.put r o).z := by unfold Hp.up; rfl
theorem append_lo {t u : TypeId} {v x v' : AV} {h' : Hp} {nx lo lo' : Nat} {m : Tr AObj} (ha : q0S C t u v x ⟨nx, m, lo⟩ = some (v', h')) : ∃ h'', q0S C t u v x ⟨nx, m, lo'⟩ = some (v', h'') ∧ h''.z = h'.z := by
  have src : ∀ es k x, q1e ⟨nx, m, lo'⟩ es k x = q1e ⟨nx, m, lo⟩ es k x := fun _ _ _ => rfl
  have get : ∀ r, (⟨nx, m, lo'⟩ : Hp).get r = (⟨nx, m, lo⟩ : Hp).get r := fun _ => rfl
  unfold q0S at ha ⊢
  simp only [src, get]
  split at ha
  case h_2 => cases ha
  split at ha
  · cases ha
  · cases ha
  split at ha
  · cases ha
  obtain ⟨hc, ha⟩ := q3A ha
  rw [hc, cond_true]
  split at ha
  case h_3 => cases ha
  · try dsimp only
    cases hb : Nat.beq _ 0 with
    | true => rw [hb] at ha; cases ha; exact ⟨_, rfl, rfl⟩
    | false =>
      rw [hb] at ha
      obtain ⟨hc2, ha⟩ := q3A ha
      cases ha
      rw [hc2]
      exact ⟨_, rfl, rfl⟩
  · rename_i r0 o0 len0 cap0 es0 ex0 _
    try dsimp only
    split at ha
    case h_2 => cases ha
    rename_i e' cs hg
    try rw [hg]
    try dsimp only
    obtain ⟨hc2, ha⟩ := q3A ha
    rw [hc2, cond_true]
    cases hb : Nat.ble (Nat.add len0 _) cap0 with
    | true =>
      rw [hb] at ha
      obtain ⟨hc3, ha⟩ := q3A ha
      cases ha
      rw [hc3]
      exact ⟨_, rfl, rfl⟩
    | false =>
      rw [hb] at ha
      dsimp only [cond] at ha ⊢
      split at ha
      · cases ha
      rename_i hz
      try rw [hz]
      try dsimp only
      cases ex0 with
      | true => cases ha; exact ⟨_, rfl, rfl⟩
      | false =>
        dsimp only at ha ⊢
        split at ha
        · rename_i hq
          try rw [hq]
          try dsimp only
          split at ha
          · rename_i hq2
            try rw [hq2]
            cases ha
            exact ⟨_, rfl, rfl⟩
          · cases ha
        · cases ha
theorem append_up {t u : TypeId} {v x v' : AV} {h' : Hp} (ha : q0S C t u v x h = some (v', h')) : ∃ h'', q0S C t u v x h.up = some (v', h'') ∧ h''.z = h'.z := by
 obtain ⟨nx, m, lo⟩ := h
 have : Hp.up ⟨nx, m, lo⟩ = ⟨nx, m, nx⟩ := by unfold Hp.up; rfl
 rw [this]
 exact append_lo ha
attribute [simp] z_up up_z z_z new_z put_z
theorem q9c {t u : TypeId} {v x v' : AV} {h' : Hp} (ha : q0S C t u v x h = some (v', h')) : (∀ r, r < h.nx → (∀ o n c e x, v ≠ .sl r o n c e x) → h'.get r = h.get r) ∧ h.nx ≤ h'.nx ∧ (∀ r o n c e x, v' = .sl r o n c e x → r = h.nx ∨ ∃ o n c e x, v = .sl r o n c e x) := by
  unfold q0S at ha
  split at ha
  case h_2 => cases ha
  split at ha
  · cases ha
  · cases ha
  split at ha
  · cases ha
  obtain ⟨_, ha⟩ := q3A ha
  split at ha
  case h_3 => cases ha
  · cases hb : Nat.beq _ 0 with
    | true =>
      rw [hb] at ha; cases ha
      exact ⟨fun _ _ _ => rfl, Nat.le_refl _, fun r o n c e x e' => by cases e'⟩
    | false =>
      rw [hb] at ha
      obtain ⟨_, ha⟩ := q3A ha
      cases ha
      exact ⟨fun r hr _ => by rw [get_new, if_neg (by omega)], Nat.le_succ _, fun r o n c e x e' => by cases e'; exact .inl rfl⟩
  · rename_i r0 o0 len0 cap0 es0 ex0 _
    split at ha
    case h_2 => cases ha
    obtain ⟨_, ha⟩ := q3A ha
    cases hb : Nat.ble _ cap0 with
    | true =>
      rw [hb] at ha
      obtain ⟨_, ha⟩ := q3A ha
      cases ha
      refine ⟨fun r hr hv => ?_, Nat.le_refl _, fun r o n c e x e' => ?_⟩
      · rw [get_put, if_neg (fun e => by subst e; exact hv _ _ _ _ _ rfl)]
      · cases e'; exact .inr ⟨_, _, _, _, _, rfl⟩
    | false =>
      rw [hb] at ha
      dsimp only [cond] at ha
      split at ha
      · cases ha
      cases ex0 with
      | true =>
        cases ha
        exact ⟨fun r hr _ => by rw [get_new, if_neg (by omega)], Nat.le_succ _, fun r o n c e x e' => by cases e'; exact .inl rfl⟩
      | false =>
        dsimp only at ha
        split at ha
        · split at ha
          · cases ha
            refine ⟨fun r hr hv => ?_, Nat.le_succ _, fun r o n c e x e' => by cases e'; exact .inl rfl⟩
            rw [get_new, if_neg (by rw [nx_put]; omega), get_put, if_neg (fun e => by subst e; exact hv _ _ _ _ _ rfl)]
          · cases ha
        · cases ha
def OwnD (k es : Nat) (eT : TypeId) (b : Nat) (h : Hp) (v : AV) (fz : List (List AV)) : Prop :=
 ∃ (S : Nat → Prop) (rows : List (List AV)), Own es eT b h v rows ∧ (∀ c ∈ rows, c.length = es) ∧ (∀ r, S r → b ≤ r ∧ r < h.nx) ∧ (∀ r o n c e x, v = .sl r o n c e x → ¬ S r) ∧ RdR S h k rows fz
theorem OwnD.nil {es b : Nat} {eT : TypeId} : OwnD k es eT b h .nilsl [] := ⟨fun _ => False, [], .nil, nofun, nofun, nofun, .nil⟩
theorem OwnD.wid {es b : Nat} {eT : TypeId} {v : AV} {fz : List (List AV)} (H : OwnD k es eT b h v fz) (hw : Wid h g) : OwnD k es eT b g v fz := by
 obtain ⟨S, rows, h1, h2, h3, h4, h5⟩ := H
 exact ⟨S, rows, h1.wid hw, h2, fun r hr => ⟨(h3 r hr).1, Nat.lt_of_lt_of_le (h3 r hr).2 hw.nx⟩, h4, h5.mono (fun _ h => h) fun r hr => hw.get r (h3 r hr).2⟩
theorem OwnD.push {es b : Nat} {t eT : TypeId} {v : AV} {fz : List (List AV)} {row frow : List AV} (ht : slT C t eT es = true) (H : OwnD k es eT b h v fz) (hw : Wid h g) (hrow : row.length = es) (hcell : row.all q0P = true) (hlen : fz.length < 1000000) (hb : b ≤ h.nx)
  {S' : Nat → Prop} (hS : ∀ r, S' r → h.nx ≤ r ∧ r < g.nx) (hr : RdL S' g k row frow) :
  ∃ v' h', q0S C t t v (.sl g.nx 0 1 1 es true) (g.new (.cells eT row)) = some (v', h') ∧ OwnD k es eT b h' v' (fz ++ [frow]) ∧ WidB b g h' ∧ h'.nx = g.nx + 2 := by
 obtain ⟨S, rows, h1, h2, h3, h4, h5⟩ := H
 have hl := h5.len
 obtain ⟨v', h', q1, q2, q3, q4⟩ := (h1.wid hw).push ht h2 hrow hcell (by omega) (Nat.le_trans hb hw.nx)
 obtain ⟨f1, f2, f3⟩ := q9c q1
 have nx1 : (g.new (.cells eT row)).nx = g.nx + 1 := nx_new
 have old : ∀ r, r < g.nx → (∀ o n c e x, v ≠ .sl r o n c e x) → h'.get r = g.get r := fun r hr hv => by
  rw [f1 r (by omega) hv, get_new, if_neg (by omega)]
 have vr : ∀ r o n c e x, v = .sl r o n c e x → r < h.nx := fun r o n c e x hv => by
  rcases h1 with ⟨rfl, _⟩ | ⟨_, q, _, hq, rfl, _⟩
  ·cases hv
  ·cases hv; exact hq
 refine ⟨v', h', q1, ⟨fun r => S r ∨ S' r, rows ++ [row], q2, fun c hc => ?_, fun r hr => ?_, fun r o n c e x hv => ?_, ?_⟩, q3, q4⟩
 ·rcases List.mem_append.1 hc with hc | hc
  ·exact h2 c hc
  ·rw [List.mem_singleton.1 hc]; exact hrow
 ·have := hw.nx
  rcases hr with hr | hr
  ·have := h3 r hr; omega
  ·have := hS r hr; omega
 ·have := hw.nx
  rcases f3 r o n c e x hv with rfl | ⟨o', n', c', e', x', hv'⟩
  ·rintro (hr | hr)
   ·have := h3 _ hr; omega
   ·have := hS _ hr; omega
  ·rintro (hr | hr)
   ·exact h4 _ _ _ _ _ _ hv' hr
   ·have := hS _ hr; have := vr _ _ _ _ _ _ hv'; omega
 ·refine .snoc (h5.mono (fun r hr => .inl hr) fun r hr => ?_) (hr.mono (fun r hr => .inr hr) fun r hr => ?_)
  ·have h6 := h3 r hr
   have := hw.nx
   rw [old r (by omega) (fun o n c e x hv => h4 _ _ _ _ _ _ hv hr)]
   exact hw.get r h6.2
  ·have h6 := hS r hr
   exact old r h6.2 fun o n c e x hv => by have := vr _ _ _ _ _ _ hv; omega
theorem Own.agr {es b : Nat} {eT : TypeId} {v : AV} {rows : List (List AV)} (H : Own es eT b h v rows) (hn : h.nx ≤ g.nx) (hg : ∀ r, b ≤ r → r < h.nx → g.get r = h.get r) : Own es eT b g v rows := by
 rcases H with h1 | ⟨h1, r, h2, h3, h4, h5⟩
 ·exact .inl h1
 ·exact .inr ⟨h1, r, h2, by omega, h4, (hg r h2 h3).trans h5⟩
theorem OwnD.agr {es b : Nat} {eT : TypeId} {v : AV} {fz : List (List AV)} (H : OwnD k es eT b h v fz) (hn : h.nx ≤ g.nx) (hg : ∀ r, b ≤ r → r < h.nx → g.get r = h.get r) : OwnD k es eT b g v fz := by
 obtain ⟨S, rows, h1, h2, h3, h4, h5⟩ := H
 exact ⟨S, rows, h1.agr hn hg, h2, fun r hr => ⟨(h3 r hr).1, Nat.lt_of_lt_of_le (h3 r hr).2 hn⟩, h4, h5.mono (fun _ h => h) fun r hr => hg r (h3 r hr).1 (h3 r hr).2⟩
theorem OwnD.put {es b r : Nat} {eT : TypeId} {v : AV} {fz : List (List AV)} (H : OwnD k es eT b h v fz) (hr : r < b) (o : AObj) : OwnD k es eT b (h.put r o) v fz :=
 H.agr (Nat.le_refl _) fun q hq _ => by rw [get_put, if_neg (by omega)]
theorem OwnD.cell {es b : Nat} {eT : TypeId} {v : AV} {fz : List (List AV)} (H : OwnD k es eT b h v fz) : q0P v = true ∧ cellsOf v = some [v] := by
 obtain ⟨S, rows, h1, _⟩ := H
 rcases h1 with ⟨rfl, _⟩ | ⟨_, r, _, _, rfl, _⟩ <;> exact ⟨rfl, rfl⟩
theorem OwnD.cases {es b : Nat} {eT : TypeId} {v : AV} {fz : List (List AV)} (H : OwnD k es eT b h v fz) : v = .nilsl ∨ ∃ r n, b ≤ r ∧ r < h.nx ∧ v = .sl r 0 n n es false := by
 obtain ⟨S, rows, h1, _⟩ := H
 rcases h1 with ⟨rfl, _⟩ | ⟨_, r, h2, h3, rfl, _⟩
 ·exact .inl rfl
 ·exact .inr ⟨r, _, h2, h3, rfl⟩
theorem q6f {h g : Hp} (e : h.z = g.z) (r : Nat) : h.get r = g.get r := by
 show h.z.get r = g.z.get r
 rw [e]
theorem nx_of_z {h g : Hp} (e : h.z = g.z) : h.nx = g.nx := by
 show h.z.nx = g.z.nx
 rw [e]
def islOf (l : List (List AV)) : AV := match l with | [] => .nilsl | l => .isl l
theorem OwnD.rd {es b : Nat} {eT : TypeId} {v : AV} {fz : List (List AV)} (H : OwnD k es eT b h v fz) : ∃ S, (∀ r, S r → b ≤ r ∧ r < h.nx) ∧ RdF S h (k + 1) v (islOf fz) := by
  obtain ⟨S, rows, h1, h2, h3, h4, h5⟩ := H
  rcases h1 with ⟨rfl, rfl⟩ | ⟨hne, q, hq1, hq2, rfl, hg⟩
  · have := h5.len
    obtain rfl := List.eq_nil_of_length_eq_zero (show fz.length = 0 by simpa using this)
    exact ⟨fun _ => False, nofun, fun g hg => rfl⟩
  · refine ⟨fun r => S r ∨ r = q, fun r hr => ?_, fun g' hg' => ?_⟩
    · rcases hr with hr | rfl
      · exact h3 r hr
      · exact ⟨hq1, hq2⟩
    · have own : Own es eT 0 { g' with nx := q + 1 } (.sl q 0 rows.length rows.length es false) rows := .inr ⟨hne, q, Nat.zero_le _, Nat.lt_succ_self _, rfl, (hg' q (.inr rfl)).trans hg⟩
      have := own.frz h2 (k := k) (rows' := fz) (h5 _ fun r hr => hg' r (.inl hr))
      have fr : ∀ (k : Nat) (v : AV), frzV k { g' with nx := q + 1 } v = frzV k g' v := by
        intro k
        induction k with
        | zero => intro v; rfl
        | succ k ih =>
          intro v
          have e : (frzV k { g' with nx := q + 1 }) = frzV k g' := funext ih
          unfold frzV
          rw [e]
          rfl
      rw [fr] at this
      cases fz <;> exact this
theorem app_empty {es q : Nat} {t xt eT : TypeId} {x : AV} {rows fz : List (List AV)} {n : Nat} (ht : slT C t eT es = true) (hxt : q6P (C.ti xt) = true) (hq : h.get q = some (.cells eT [])) (hqn : q < h.nx) (hl : lenA x = some n) (hn : rows.length = n)
    (hsrc : q1e h es n x = some rows.flatten) (hrows : ∀ c ∈ rows, c.length = es) (hcell : rows.flatten.all q0P = true) (hlen : n ≤ 1000000) (hf : RdR S h k rows fz) (hS : ∀ r, S r → r < h.nx) :
    ∃ v' h', q0S C t xt (.sl q 0 0 0 es true) x h = some (v', h') ∧ (∀ r, r < h.nx → h'.get r = h.get r) ∧ h.nx ≤ h'.nx ∧ q0P v' = true ∧ ∃ p, (p = q ∨ h.nx ≤ p) ∧ p < h'.nx ∧ RdF (fun r => S r ∨ r = p) h' (k + 1) v' (.isl fz) ∧ (∃ ex, v' = .sl p 0 n n es ex) ∧ h'.get p = some (.cells eT rows.flatten) := by
  unfold slT at ht
  split at ht
  case h_2 => cases ht
  rename_i e size isAgg zero zeroOk bytes comparable zv y hti hy
  simp only [Bool.and_eq_true, decide_eq_true_eq] at ht
  obtain ⟨rfl, hys, hz, hby⟩ := ht
  have hnl : rows.flatten.length = n * es := by rw [q4L hrows, hn]
  cases hx : C.ti xt with
  | none => rw [hx] at hxt; cases hxt
  | some xi =>
  rw [hx] at hxt
  have hxi : q8I xi.desc = true := hxt
  have hsrc' : q1e h y.size n x = some rows.flatten := by rw [hys]; exact hsrc
  have b1 : Nat.ble y.bytes 1000000 = true := Nat.ble_eq_true_of_le hby
  have b2 : Nat.beq rows.flatten.length (Nat.mul n y.size) = true := by rw [hnl, hys]; exact Nat.beq_refl _
  have b3 : Nat.beq es y.size = true := by rw [hys]; exact Nat.beq_refl _
  have b4 : Nat.ble (Nat.add 0 n) 1000000 = true := Nat.ble_eq_true_of_le (by simp; omega)
  have hch : ∀ (rows : List (List AV)), (∀ c ∈ rows, c.length = es) → chunks es rows.length rows.flatten = rows := by
    intro rows
    induction rows with
    | nil => intro _; rfl
    | cons c l ih =>
      intro hc
      have h1 := hc c List.mem_cons_self
      show ((c ++ l.flatten).take es) :: chunks es l.length ((c ++ l.flatten).drop es) = _
      rw [List.take_left' h1, List.drop_left' h1, ih fun x hx => hc x (List.mem_cons_of_mem _ hx)]
  by_cases h0 : n = 0
  · subst h0
    obtain rfl := List.eq_nil_of_length_eq_zero hn
    have hfz : fz = [] := List.eq_nil_of_length_eq_zero (by have := hf.len; simpa using this)
    subst hfz
    refine ⟨.sl q 0 0 0 es true, h.put q (.cells e []), ?_, fun r hr => ?_, Nat.le_refl _, rfl, q, .inl rfl, hqn, fun g' hg' => ?_, ⟨_, rfl⟩, by rw [get_put, if_pos rfl]; rfl⟩
    · unfold q0S
      rw [hti, hx, hl]
      try dsimp only
      rw [hy, hxi]
      try dsimp only
      rw [hsrc']
      try dsimp only
      rw [hcell, b1, b2]
      try dsimp only
      rw [hq]
      try dsimp only
      rw [b3]
      simp [q1y, q5O]
    · rw [get_put]
      by_cases e : q = r
      · subst e; rw [if_pos rfl, hq]
      · rw [if_neg e]
    · have : g'.get q = some (.cells e []) := by rw [hg' q (.inr rfl), get_put, if_pos rfl]
      unfold frzV
      simp [this, chunks, mapO]
  · have b5 : Nat.ble (Nat.add 0 n) 0 = false := by
      cases hc : Nat.ble (Nat.add 0 n) 0 with
      | false => rfl
      | true => have := Nat.le_of_ble_eq_true hc; simp at this; omega
    refine ⟨.sl h.nx 0 n n es false, h.new (.cells e rows.flatten), ?_, fun r hr => by rw [get_new, if_neg (by omega)], Nat.le_succ _, rfl, h.nx, .inr (Nat.le_refl _), Nat.lt_succ_self _, fun g' hg' => ?_, ⟨_, rfl⟩, by rw [get_new, if_pos rfl]⟩
    · unfold q0S
      rw [hti, hx, hl]
      try dsimp only
      rw [hy, hxi]
      try dsimp only
      rw [hsrc']
      try dsimp only
      rw [hcell, b1, b2]
      try dsimp only
      rw [hq]
      try dsimp only
      rw [b3, b4, b5, hz]
      simp
    · have hg : g'.get h.nx = some (.cells e rows.flatten) := by rw [hg' h.nx (.inr rfl), get_new, if_pos rfl]
      have hr : mapO (mapO (frzV k g')) rows = some fz := hf g' fun r hr => by
        have := hS r hr
        rw [hg' r (.inl hr), get_new, if_neg (by omega)]
      unfold frzV
      try dsimp only
      rw [hg]
      try dsimp only
      have h3 : Nat.ble (Nat.add 0 (Nat.mul n es)) rows.flatten.length = true := Nat.ble_eq_true_of_le (by rw [hnl]; simp)
      rw [h3, List.drop_zero, ← hn, hch rows hrows, hr]
      rfl
end Go.Ax
set_option maxRecDepth 20000
noncomputable section
namespace Go.Ax
open Go.Proofs
attribute [local irreducible] TW TO CallsT q0y
variable {F : Nat → Option Obj} {gl : Nat → AV} {K : Knob}
def Sl.of {α : Type} : List α → Sl α
 | [] => .nil
 | l => .mk l
theorem Sl.of_list {α : Type} (l : List α) : (Sl.of l).list = l := by cases l <;> rfl
theorem q5C {α : Type} (e : α → List AV) (l : List α) : islOf (l.map e) = (Sl.of l).av e := by cases l <;> rfl
def q5j (x : LType) : LType := { x with parts := .mk x.parts.list }
theorem slt_types : slT (Ctx.of Tryz.prog gl K) q7e q1W 4 = true := by simp [slT]
theorem q0N {S : Nat → Prop} {h : Hp} {k : Nat} {q : IntKind} {n : Int} : RdF S h (k + 1) (.int q n) (.int q n) := fun _ _ => rfl
theorem rdR_ints {S : Nat → Prop} {h : Hp} {k : Nat} (l : List Int) : RdR S h (k + 1) (l.map cI) (l.map cI) := fun _ _ => ints_frz l
theorem src_ints' {h : Hp} (x : Sl Int) : q1e h 1 x.list.length (x.av cI) = some (x.list.map cI).flatten := by have := src_ints (h := h) x; simpa using this
theorem q2x {α β : Type} {f : α → β} {l : List α} {i : Nat} {x : α} (hx : l[i]? = some x) : (l.take (i + 1)).map f = (l.take i).map f ++ [f x] := by
 obtain ⟨h, rfl⟩ := List.getElem?_eq_some_iff.1 hx
 rw [List.take_succ_eq_append_getElem h, List.map_append]; rfl
theorem app_ints (x : Sl Int) (hx : x.list.length ≤ 1000000) (h : Hp) : ∃ v' h', q0S (Ctx.of Tryz.prog gl K) q0u q0u (.sl h.nx 0 0 0 1 true) (x.av cI) (h.new (.cells q0C [])) = some (v', h') ∧ Wid h h' ∧ q0P v' = true ∧ cellsOf v' = some [v'] ∧
  ∃ p, h.nx ≤ p ∧ p < h'.nx ∧ RdF (fun r => r = p) h' 2 v' (.isl (x.list.map cI)) := by
 obtain ⟨v', h', h1, h2, h3, h4, p, h5, h6, h7, _⟩ := app_empty (q := h.nx) (k := 1) (h := h.new (.cells q0C [])) (x := x.av cI) (rows := x.list.map cI) (fz := x.list.map cI) (n := x.list.length) (S := fun _ => False) (xt := q0u) (q0Q (gl := gl) (K := K)) q3W (by simp [get_new]) (by simp [nx_new]) (lenA_av x) (by simp) (src_ints' x) q1a q6x hx (rdR_ints _) nofun
 refine ⟨v', h', h1, ⟨by have := nx_new (h := h) (o := .cells q0C []); omega, fun r hr => ?_⟩, h4, ?_, p, ?_, h6, h7.mono (fun r hr => hr.elim False.elim id) .refl⟩
 ·rw [h2 r (by rw [nx_new]; omega), get_new, if_neg (by omega)]
 ·cases v' <;> first | rfl | cases h4
 ·have := nx_new (h := h) (o := .cells q0C []); omega
theorem Twin3_pure (hP : POk Tryz.prog F gl K) (t : Sl LType) (hlen : t.list.length < 1000000) (ht : ∀ x ∈ t.list, x.parts.list.length < 1000000) : q0y Tryz.prog F q5c [t.av LType.cells] ((Sl.of (t.list.map q5j)).av LType.cells) := by
 refine CallsT.pure (O := fun u g => frzV 3 g u = some ((Sl.of (t.list.map q5j)).av LType.cells)) (k := 3) (by simp) ?_ (fun u g e => e)
 refine CallsT.body hP q0e E_fescueref03_Twin rfl rfl ?_
 repeat' first | refine TW.seq ?_ | refine TW.block ?_ | (refine TW.regG hP (by simp <;> rfl) ?_; dsimp only [goK])
 refine TW.loopL (fun p : Nat × AV => [(0, t.av LType.cells), (3, p.2), (4, .int .i64 p.1)]) (fun p g => p.1 ≤ t.list.length ∧ OwnD 2 4 q1W 0 g p.2 (((t.list.take p.1).map q5j).map LType.cells)) (fun p => t.list.length - p.1) ((0, .nilsl)) ?_ ?_ ?_
 focus (repeat' first | exact q0c | refine q0b (by simp) ?_)
 ·exact ⟨Nat.zero_le _, .nil⟩
 rintro ⟨i, v⟩ g ⟨hi, hown⟩
 dsimp only at hi hown ⊢
 repeat' first | refine TW.seq ?_ | (refine TW.regG hP (by simp <;> rfl) ?_; dsimp only [goK]) | simp only [q0a]
 refine TW.cond hP rfl (fun hc => TW.skip ?_) (fun hc => TW.exit ?_)
 ·simp at hc
  obtain ⟨x, hx⟩ := q0g hc
  have hav := q0z (e := LType.cells) (show 0 < t.list.length by omega)
  have hx1 := ht x (List.mem_of_getElem? hx)
  dsimp only [q0a]
  refine TW.seq ?_
  refine TW.block ?_
  refine TW.seq (TW.regG hP (by simp [hx, hav] <;> rfl) ?_)
  dsimp only [goK, q0a, q0f, q0d]
  refine TW.gen (fun k => k.get g.nx = some (.cells q1W x.cells) ∧ Wid g k ∧ k.nx = g.nx + 1) ⟨by simp, ((Wid.refl g).new _).put (by simp) _, by simp⟩ fun k hk => ?_
  obtain ⟨hk, hw, hn⟩ := hk
  dsimp only [q1W, LType.cells] at hk
  obtain ⟨v1, k1, a1, a2, a3, a4, p, a5, a6, a7⟩ := app_ints (gl := gl) (K := K) x.parts (by omega) k
  dsimp only [q0u, q0C] at a1
  have hk1 : k1.get g.nx = _ := a2.at hk (by omega)
  have hne : ¬ k.nx = g.nx := by omega
  refine TW.seq (TW.regG hP (by simp [hk, a1, hk1, a4, a3, hne] <;> rfl) ?_)
  dsimp only [goK, q0a, q0f, q0d]
  refine TW.gen (fun m => m.get g.nx = some (.cells q1W [.int .u8 x.kind, .int .i64 x.elem, .int .i64 x.many, v1]) ∧ Wid g m ∧ RdF (fun r => r = p) m 2 v1 (.isl (x.parts.list.map cI)) ∧ p < m.nx) ⟨by simp [get_put], (hw.trans a2).put (Nat.le_refl _) _, a7.mono (fun _ h => h) fun r hr => by rw [get_put, if_neg (by omega)], by simpa using a6⟩ fun m hm => ?_
  obtain ⟨hm, hwm, a7', a6'⟩ := hm
  obtain ⟨v', h', q1, q2, q3, q4⟩ := hown.push (t := q7e) (g := m) (row := [.int .u8 x.kind, .int .i64 x.elem, .int .i64 x.many, v1]) (frow := (q5j x).cells) (slt_types (gl := gl) (K := K)) hwm rfl (by simp [a3]) (by simp; omega) (Nat.zero_le _) (S' := fun r => r = p) (by rintro r rfl; omega) (.cons q0N (.cons q0N (.cons q0N (.cons a7' .nil))))
  dsimp only [q7e, q1W] at q1 hm
  repeat' first | (refine TW.regG hP (by simp [hm, q1] <;> rfl) ?_; dsimp only [goK]) | simp only [q0d]
  refine ⟨(i + 1, v'), by dsimp only; omega, trivial, ?_, by dsimp only; omega, ?_⟩
  ·repeat' first | exact q0c | refine q0b (by simp [hav, w64s (show i < 9000000000000000000 by omega)]) ?_
  ·dsimp only; rw [q2x hx, List.map_append]; exact q2
 ·simp at hc
  dsimp only [q0a]
  rw [List.take_of_length_le hc] at hown
  obtain ⟨S, _, hr⟩ := hown.rd
  repeat' first | refine TW.seq ?_ | (refine TW.regG hP (by simp <;> rfl) ?_; dsimp only [goK]) | simp only [q0a] | (refine TW.ret ⟨.inr rfl, _, _, rfl, rfl, ?_⟩; dsimp only [q0h])
  rw [← q5C]; exact hr.now
def q8t (x : LIns) : LIns := { x with args := .mk x.args.list, frm := .mk x.frm.list }
def q1H (b : LBlock) : LBlock := { ins := .of (b.ins.list.map q8t), ed := b.ed }
theorem z1j : slT (Ctx.of Tryz.prog gl K) q3V q0M 7 = true := by simp [slT]
theorem q7t : slT (Ctx.of Tryz.prog gl K) q1D q0s 5 = true := by simp [slT]
theorem slt_funcs : slT (Ctx.of Tryz.prog gl K) q7O q0R 2 = true := by simp [slT]
set_option maxHeartbeats 2000000 in
theorem TwinBlocks_pure (hP : POk Tryz.prog F gl K) (l : Sl LBlock) (hlen : l.list.length < 1000000) (hb : ∀ x ∈ l.list, x.ins.list.length < 1000000 ∧ ∀ y ∈ x.ins.list, y.args.list.length < 1000000 ∧ y.frm.list.length < 1000000) : q0y Tryz.prog F q0r [l.av LBlock.cells] ((Sl.of (l.list.map q1H)).av LBlock.cells) := by
 refine CallsT.pure (O := fun u g => frzV 4 g u = some ((Sl.of (l.list.map q1H)).av LBlock.cells)) (k := 4) (by simp) ?_ (fun u g e => e)
 refine CallsT.body hP q0e q4x rfl rfl ?_
 repeat' first | refine TW.seq ?_ | refine TW.block ?_ | (refine TW.regG hP (by simp <;> rfl) ?_; dsimp only [goK])
 refine TW.loopL (fun p : Nat × AV => [(0, l.av LBlock.cells), (3, p.2), (4, .int .i64 p.1)]) (fun p g => p.1 ≤ l.list.length ∧ OwnD 3 5 q0s 0 g p.2 (((l.list.take p.1).map q1H).map LBlock.cells)) (fun p => l.list.length - p.1) ((0, .nilsl)) ?_ ?_ ?_
 focus (repeat' first | exact q0c | refine q0b (by simp) ?_)
 ·exact ⟨Nat.zero_le _, .nil⟩
 rintro ⟨i, v⟩ g ⟨hi, hown⟩
 dsimp only at hi hown ⊢
 repeat' first | refine TW.seq ?_ | (refine TW.regG hP (by simp <;> rfl) ?_; dsimp only [goK]) | simp only [q0a]
 refine TW.cond hP rfl (fun hc => TW.skip ?_) (fun hc => TW.exit ?_)
 ·simp at hc
  obtain ⟨x, hx⟩ := q0g hc
  have hav := q0z (e := LBlock.cells) (show 0 < l.list.length by omega)
  obtain ⟨hx1, hx2⟩ := hb x (List.mem_of_getElem? hx)
  dsimp only [q0a]
  refine TW.seq ?_
  refine TW.block ?_
  refine TW.seq (TW.regG hP (by simp [hx, hav] <;> rfl) ?_)
  dsimp only [goK, q0a, q0f, q0d]
  refine TW.gen (fun k => k.get g.nx = some (.cells q0s (.nilsl :: x.ed.cells)) ∧ Wid g k ∧ k.nx = g.nx + 1) ⟨by simp, ((Wid.refl g).new _).put (by simp) _, by simp⟩ fun k hk => ?_
  obtain ⟨hk, hw, hn⟩ := hk
  repeat' first | refine TW.seq ?_ | refine TW.block ?_ | (refine TW.regG hP (by simp <;> rfl) ?_; dsimp only [goK])
  refine TW.loopL (fun p : Nat × AV => [(0, l.av LBlock.cells), (3, v), (4, .int .i64 i), (5, .ptr g.nx 0), (6, .int .i64 p.1)]) (fun p m => p.1 ≤ x.ins.list.length ∧ m.get g.nx = some (.cells q0s (p.2 :: x.ed.cells)) ∧ Wid g m ∧ g.nx < m.nx ∧ OwnD 2 7 q0M (g.nx + 1) m p.2 (((x.ins.list.take p.1).map q8t).map LIns.cells)) (fun p => x.ins.list.length - p.1) ((0, .nilsl)) ?_ ?_ ?_
  focus (repeat' first | exact q0c | refine q0b (by simp [hav]) ?_)
  ·exact ⟨Nat.zero_le _, hk, hw, by omega, .nil⟩
  rintro ⟨j, u⟩ m ⟨hj, hm, hwm, hnm, hin⟩
  dsimp only [q0s, LEnd.cells] at hj hm hin ⊢
  repeat' first | refine TW.seq ?_ | (refine TW.regG hP (by simp [hx, hav] <;> rfl) ?_; dsimp only [goK]) | simp only [q0a]
  refine TW.cond hP rfl (fun hc => TW.skip ?_) (fun hc => TW.exit ?_)
  ·simp at hc
   obtain ⟨y, hy⟩ := q0g hc
   have hiv := q0z (e := LIns.cells) (show 0 < x.ins.list.length by omega)
   obtain ⟨hy1, hy2⟩ := hx2 y (List.mem_of_getElem? hy)
   dsimp only [q0a]
   refine TW.seq ?_
   refine TW.block ?_
   refine TW.seq (TW.regG hP (by simp [hx, hy, hiv] <;> rfl) ?_)
   dsimp only [goK, q0a, q0f, q0d]
   refine TW.gen (fun k => k.get m.nx = some (.cells q0M y.cells) ∧ Wid m k ∧ k.nx = m.nx + 1) ⟨by simp, ((Wid.refl m).new _).put (by simp) _, by simp⟩ fun k hk => ?_
   obtain ⟨hk, hw2, hn2⟩ := hk
   dsimp only [q0M, LIns.cells] at hk
   obtain ⟨v1, k1, a1, a2, a3, a4, p, a5, a6, a7⟩ := app_ints (gl := gl) (K := K) y.args (by omega) k
   dsimp only [q0u, q0C] at a1
   have hk1 : k1.get m.nx = _ := a2.at hk (by omega)
   have hne : ¬ k.nx = m.nx := by omega
   refine TW.seq (TW.regG hP (by simp [hk, a1, hk1, a4, a3, hne] <;> rfl) ?_)
   dsimp only [goK, q0a, q0f, q0d]
   refine TW.gen (fun m1 => m1.get m.nx = some (.cells q0M [.int .u8 y.op, .int .i64 y.type, .int .i64 y.a, .int .i64 y.b, .int .i64 y.n, v1, y.frm.av cI]) ∧ Wid m m1 ∧ RdF (fun r => r = p) m1 2 v1 (.isl (y.args.list.map cI)) ∧ p < m1.nx) ⟨by simp [get_put], (hw2.trans a2).put (Nat.le_refl _) _, a7.mono (fun _ h => h) fun r hr => by rw [get_put, if_neg (by omega)], by simpa using a6⟩ fun m1 hm1 => ?_
   obtain ⟨hm1, hwm1, a7', a6'⟩ := hm1
   dsimp only [q0M] at hm1
   obtain ⟨v2, k2, b1, b2, b3, b4, p2, b5, b6, b7⟩ := app_ints (gl := gl) (K := K) y.frm (by omega) m1
   dsimp only [q0u, q0C] at b1
   have hk2 : k2.get m.nx = _ := b2.at hm1 (by omega)
   have hne2 : ¬ m1.nx = m.nx := by omega
   refine TW.seq (TW.regG hP (by simp [hm1, b1, hk2, b4, b3, hne2] <;> rfl) ?_)
   dsimp only [goK, q0a, q0f, q0d]
   refine TW.gen (fun m2 => m2.get m.nx = some (.cells q0M [.int .u8 y.op, .int .i64 y.type, .int .i64 y.a, .int .i64 y.b, .int .i64 y.n, v1, v2]) ∧ Wid m m2 ∧ RdF (fun r => r = p) m2 2 v1 (.isl (y.args.list.map cI)) ∧ RdF (fun r => r = p2) m2 2 v2 (.isl (y.frm.list.map cI)) ∧ p < m2.nx ∧ p2 < m2.nx) ⟨by simp [get_put], (hwm1.trans b2).put (Nat.le_refl _) _, a7'.mono (fun _ h => h) fun r hr => by rw [get_put, if_neg (by omega)]; exact b2.get r (by omega), b7.mono (fun _ h => h) fun r hr => by rw [get_put, if_neg (by omega)], by have := b2.nx; simp; omega, by simpa using b6⟩ fun m2 hm2 => ?_
   obtain ⟨hm2, hwm2, c1, c2, c3, c4⟩ := hm2
   obtain ⟨v', h', q1, q2, q3, q4⟩ := hin.push (t := q3V) (g := m2) (row := [.int .u8 y.op, .int .i64 y.type, .int .i64 y.a, .int .i64 y.b, .int .i64 y.n, v1, v2]) (frow := (q8t y).cells) (z1j (gl := gl) (K := K)) hwm2 rfl (by simp [a3, b3]) (by simp; omega) (by omega) (S' := fun r => r = p ∨ r = p2) (by rintro r (rfl | rfl) <;> omega) (.cons q0N (.cons q0N (.cons q0N (.cons q0N (.cons q0N (.cons (c1.mono (fun _ h => .inl h) .refl) (.cons (c2.mono (fun _ h => .inr h) .refl) .nil)))))))
   have hm2b : m2.get g.nx = _ := hwm2.at hm hnm
   have hb' : h'.get g.nx = _ := (q3.get g.nx (by omega)).trans hm2b
   dsimp only [q3V, q0M] at q1 hm2
   have hne3 : ¬ m2.nx = g.nx := by have := hwm2.nx; omega
   obtain ⟨d1, d2⟩ := q2.cell
   repeat' first | (refine TW.regG hP (by simp [hm2, q1, hm2b, hb', d1, d2] <;> rfl) ?_; dsimp only [goK]) | simp only [q0d]
   refine ⟨(j + 1, v'), by dsimp only; omega, trivial, ?_, by dsimp only; omega, ?_, ?_, ?_, ?_⟩
   ·repeat' first | exact q0c | refine q0b (by simp [hav, w64s (show j < 9000000000000000000 by omega)]) ?_
   ·simp [get_put]
   ·refine Wid.put ⟨by have := hwm2.nx; have := hwm.nx; omega, fun r hr => ?_⟩ (Nat.le_refl _) _
    rw [q3.get r (by omega), hwm2.get r (by have := hwm.nx; omega), hwm.get r hr]
   ·have := hwm2.nx; simp; omega
   ·dsimp only; rw [q2x hy, List.map_append]; exact q2.put (by omega) _
  ·simp at hc
   dsimp only [q0a]
   rw [List.take_of_length_le hc] at hin
   obtain ⟨S, hS, hr⟩ := hin.rd
   obtain ⟨d1, d2⟩ := hin.cell
   obtain ⟨v', h', q1, q2, q3, q4⟩ := hown.push (t := q1D) (g := m) (row := u :: x.ed.cells) (frow := (q1H x).cells) (q7t (gl := gl) (K := K)) hwm rfl (by simp [d1]) (by simp; omega) (Nat.zero_le _) (S' := S) (fun r h => by have := hS r h; omega) (.cons (by rw [q5C] at hr; exact hr) (.cons q0N (.cons q0N (.cons q0N (.cons q0N .nil)))))
   dsimp only [q1D, q0s, LEnd.cells] at q1
   repeat' first | (refine TW.regG hP (by simp [hm, q1] <;> rfl) ?_; dsimp only [goK]) | simp only [q0d]
   refine ⟨(i + 1, v'), by dsimp only; omega, trivial, ?_, by dsimp only; omega, ?_⟩
   ·repeat' first | exact q0c | refine q0b (by simp [hav, w64s (show i < 9000000000000000000 by omega)]) ?_
   ·dsimp only; rw [q2x hx, List.map_append]; exact q2
 ·simp at hc
  dsimp only [q0a]
  rw [List.take_of_length_le hc] at hown
  obtain ⟨S, _, hr⟩ := hown.rd
  repeat' first | refine TW.seq ?_ | (refine TW.regG hP (by simp <;> rfl) ?_; dsimp only [goK]) | simp only [q0a] | (refine TW.ret ⟨.inr rfl, _, _, rfl, rfl, ?_⟩; dsimp only [q0h])
  rw [← q5C]; exact hr.now
def q4y (x : LFunc) : LFunc := { sig := x.sig, blocks := .of (x.blocks.list.map q1H) }
def q0X (p : LProg) : LProg := { types := .of (p.types.list.map q5j), funcs := .of (p.funcs.list.map q4y) }
theorem q6R {α : Type} {e : α → List AV} (he : ∀ x, q1v (e x) = true) (x : Sl α) {k : Nat} {h : Hp} : frzV (k + 1) h (x.av e) = some (x.av e) := by
  have := q2F he x
  cases x with
  | nil => rfl
  | mk l =>
    have h1 : q6s (l.map e) = true := this
    unfold frzV
    simp only [Sl.av, h1, cond_true]
end Go.Ax
noncomputable section
namespace Go.Ax
variable {C : Ctx} {h g : Hp} {S S' : Nat → Prop} {es i o : Nat} {rows : List (List AV)} {row : List AV}
def q3l (es : Nat) (rows : List (List AV)) : Prop := ∀ c ∈ rows, c.length = es
theorem q7x (hr : q3l es rows) (hi : rows[i]? = some row) : rows.flatten = (rows.take i).flatten ++ (row ++ (rows.drop (i + 1)).flatten) ∧ (rows.take i).flatten.length = i * es ∧ row.length = es := by
 obtain ⟨h1, h2⟩ := List.getElem?_eq_some_iff.1 hi
 refine ⟨?_, ?_, hr row (List.mem_of_getElem? hi)⟩
 ·conv => lhs; rw [← List.take_append_drop i rows]
  rw [List.flatten_append, List.drop_eq_getElem_cons h1, List.flatten_cons, h2]
 ·rw [q4L fun x hx => hr x (List.mem_of_mem_take hx), List.length_take, Nat.min_eq_left (by omega)]
theorem flat_sub (hr : q3l es rows) (hi : rows[i]? = some row) {k : Nat} (hk : o + k ≤ es) : sub rows.flatten (i * es + o) k = some ((row.drop o).take k) := by
 obtain ⟨h1, h2, h3⟩ := q7x hr hi
 unfold sub
 have hl : i * es + o + k ≤ rows.flatten.length := by rw [h1, List.length_append, List.length_append, h2, h3]; omega
 have e : Nat.ble (Nat.add (i * es + o) k) rows.flatten.length = true := Nat.ble_eq_true_of_le hl
 rw [e, cond_true, h1, List.drop_append, List.drop_of_length_le (by omega), h2, Nat.add_sub_cancel_left, List.nil_append, List.drop_append_of_le_length (by omega), List.take_append_of_le_length (by simp; omega)]
theorem flat_at (hr : q3l es rows) (hi : rows[i]? = some row) (hk : o < es) : rows.flatten[i * es + o]? = row[o]? := by
 obtain ⟨h1, h2, h3⟩ := q7x hr hi
 rw [h1, List.getElem?_append_right (by omega), h2, Nat.add_sub_cancel_left, List.getElem?_append_left (by omega)]
theorem flat_put (hr : q3l es rows) (hi : rows[i]? = some row) {vs : List AV} (hk : o + vs.length ≤ es) : q1y rows.flatten (i * es + o) vs = (rows.set i (q1y row o vs)).flatten := by
 obtain ⟨h1, h2, h3⟩ := q7x hr hi
 obtain ⟨h4, h5⟩ := List.getElem?_eq_some_iff.1 hi
 have e1 : (rows.set i (q1y row o vs)).flatten = (rows.take i).flatten ++ (q1y row o vs ++ (rows.drop (i + 1)).flatten) := by
  rw [List.set_eq_take_append_cons_drop, if_pos h4, List.flatten_append, List.flatten_cons]
 rw [e1]
 unfold q1y
 show rows.flatten.take (i * es + o) ++ (vs ++ rows.flatten.drop (i * es + o + vs.length)) = _
 have e2 : rows.flatten.take (i * es + o) = (rows.take i).flatten ++ row.take o := by
  rw [h1, List.take_append, List.take_of_length_le (by omega), h2, Nat.add_sub_cancel_left, List.take_append_of_le_length (by omega)]
 have e3 : rows.flatten.drop (i * es + o + vs.length) = row.drop (o + vs.length) ++ (rows.drop (i + 1)).flatten := by
  rw [h1, List.drop_append, List.drop_of_length_le (by omega), h2, List.nil_append, show i * es + o + vs.length - i * es = o + vs.length by omega, List.drop_append_of_le_length (by omega)]
 rw [e2, e3]
 simp [List.append_assoc]
theorem q2u (hr : q3l es rows) {r : List AV} (h1 : r.length = es) : q3l es (rows.set i r) := fun c hc => by
 rcases List.mem_or_eq_of_mem_set hc with h2 | rfl
 ·exact hr c h2
 ·exact h1
def q0L (C : Ctx) (t : TypeId) (row : List AV) (o : Nat) : Option AV := match C.ti t with | some ti => q4u ti row o | none => none
def q1h (C : Ctx) (t : TypeId) (es o : Nat) : Bool := match C.ti t with | some ti => Nat.ble (o + (bif ti.isAgg then ti.size else 1)) es | none => true
theorem q2n {t e : TypeId} {r : Nat} (hg : h.get r = some (.cells e rows.flatten)) (hr : q3l es rows) (hi : rows[i]? = some row) (hok : q1h C t es o = true) : loadAt C t (.ptr r (i * es + o)) h = q0L C t row o := by
  unfold loadAt q0L
  unfold q1h at hok
  cases hti : C.ti t with
  | none => rfl
  | some ti =>
    rw [hti] at hok
    dsimp only at hok ⊢
    rw [hg]
    dsimp only
    unfold q4u
    have hok := Nat.le_of_ble_eq_true hok
    cases ha : ti.isAgg with
    | true =>
      rw [ha, cond_true] at hok
      obtain ⟨h1, h2, h3⟩ := q7x hr hi
      dsimp only
      rw [flat_sub hr hi hok]
      have : sub row o ti.size = some ((row.drop o).take ti.size) := by
        unfold sub
        rw [show Nat.ble (Nat.add o ti.size) row.length = true from Nat.ble_eq_true_of_le (by rw [h3]; exact hok)]
        rfl
      rw [this]
    | false =>
      rw [ha, cond_false] at hok
      exact flat_at hr hi (by omega)
theorem q2i {t e : TypeId} {r : Nat} (hg : h.get r = some (.cells e rows.flatten)) (hr : q3l es rows) (hi : rows[i]? = some row) (hok : q1h C t es 0 = true) : loadAt C t (.ptr r (i * es)) h = q0L C t row 0 := q2n (o := 0) hg hr hi hok
theorem store_arr {t e : TypeId} {r : Nat} {v : AV} {vs : List AV} (hg : h.get r = some (.cells e rows.flatten)) (hr : q3l es rows) (hi : rows[i]? = some row) (hv : cellsOf v = some vs) (hc : vs.all q0P = true) (hs : (match C.ti t with | some ti => decide (vs.length = ti.size) | none => false) = true) (hk : o + vs.length ≤ es) :
    storeAt C t (.ptr r (i * es + o)) v h = some (h.put r (.cells e (rows.set i (q1y row o vs)).flatten)) := by
  unfold storeAt
  cases hti : C.ti t with
  | none => rw [hti] at hs; cases hs
  | some ti =>
    rw [hti] at hs
    have hs := of_decide_eq_true hs
    rw [hv]
    dsimp only
    rw [hg]
    dsimp only
    obtain ⟨h1, h2, h3⟩ := q7x hr hi
    have hl : i * es + o + vs.length ≤ rows.flatten.length := by rw [h1, List.length_append, List.length_append, h2, h3]; omega
    rw [show Nat.beq vs.length ti.size = true by rw [hs]; exact Nat.beq_refl _, show Nat.ble (Nat.add (i * es + o) vs.length) rows.flatten.length = true from Nat.ble_eq_true_of_le hl, hc, flat_put hr hi hk]
    rfl
def sz1 (C : Ctx) (t : TypeId) : Bool := match C.ti t with | some ti => decide (ti.size = 1) | none => false
theorem q6p {e : TypeId} {r : Nat} {v : AV} (hg : h.get r = some (.cells e rows.flatten)) (hr : q3l es rows) (hi : rows[i]? = some row) (hv : cellsOf v = some [v]) (hc : q0P v = true) (ho : o < es) (t : TypeId) (ht : sz1 C t = true) :
    storeAt C t (.ptr r (i * es + o)) v h = some (h.put r (.cells e (rows.set i (row.set o v)).flatten)) := by
  have hl := hr row (List.mem_of_getElem? hi)
  rw [store_arr hg hr hi hv (by simp [hc]) (by
    unfold sz1 at ht
    cases hti : C.ti t with
    | none => rw [hti] at ht; cases ht
    | some ti => rw [hti] at ht; have := of_decide_eq_true ht; simp [this]) (by simp; omega)]
  have : q1y row o [v] = row.set o v := by
    rw [List.set_eq_take_append_cons_drop, if_pos (by omega)]
    rfl
  rw [this]
theorem store10 {e : TypeId} {r : Nat} {v : AV} (hg : h.get r = some (.cells e rows.flatten)) (hr : q3l es rows) (hi : rows[i]? = some row) (hv : cellsOf v = some [v]) (hc : q0P v = true) (ho : 0 < es) (t : TypeId) (ht : sz1 C t = true) :
  storeAt C t (.ptr r (i * es)) v h = some (h.put r (.cells e (rows.set i (row.set 0 v)).flatten)) := q6p (o := 0) hg hr hi hv hc ho t ht
theorem q5A {α : Type} {l : List α} {i : Nat} {x : α} (h : l[i]? = some x) : l.set i x = l := by
 obtain ⟨h1, rfl⟩ := List.getElem?_eq_some_iff.1 h
 exact List.set_getElem_self h1
theorem q3i {α : Type} {l : List α} {i : Nat} {x y : α} (h : l[i]? = some x) : (l.set i y)[i]? = some y := by
 obtain ⟨h1, rfl⟩ := List.getElem?_eq_some_iff.1 h
 exact List.getElem?_set_self h1
abbrev Asr := Hp → (Nat → Prop) → Prop
def Locl (P : Asr) : Prop := ∀ h g S S', P h S → (∀ r, S r → S' r) → Agr S h g → P g S'
end Go.Ax
set_option maxRecDepth 20000
noncomputable section
namespace Go.Ax
open Go.Proofs
variable {C : Ctx} {h g : Hp} {S S' : Nat → Prop} {es i o : Nat} {rows : List (List AV)} {row : List AV} {X : Type}
def ArrS (ρ : X → List AV → Asr) (es : Nat) (eT : TypeId) (x : Bool) (v : AV) (xs : Sl X) (h : Hp) (S : Nat → Prop) : Prop :=
 match xs with
 | .nil => v = .nilsl
 | .mk l => ∃ (r : Nat) (rows : List (List AV)) (Ss : Nat → Nat → Prop), v = .sl r 0 l.length l.length es x ∧ S r ∧ h.get r = some (.cells eT rows.flatten) ∧ rows.length = l.length ∧ q3l es rows ∧
   (∀ i s, Ss i s → S s ∧ s ≠ r) ∧ (∀ i j s, Ss i s → Ss j s → i = j) ∧ ∀ i a row, l[i]? = some a → rows[i]? = some row → ρ a row h (Ss i)
theorem ArrS.locl {ρ : X → List AV → Asr} {eT : TypeId} {x : Bool} {v : AV} {xs : Sl X} (hρ : ∀ a row, Locl (ρ a row)) : Locl (ArrS ρ es eT x v xs) := fun h g S S' H hS hg => by
  cases xs with
  | nil => exact H
  | mk l =>
    obtain ⟨r, rows, Ss, h1, h2, h3, h4, h5, h6, h7, h8⟩ := H
    exact ⟨r, rows, Ss, h1, hS r h2, (hg r h2).trans h3, h4, h5, fun i s hs => ⟨hS s (h6 i s hs).1, (h6 i s hs).2⟩, h7, fun i a row ha hr => hρ a row _ _ _ _ (h8 i a row ha hr) (fun _ h => h) fun s hs => hg s (h6 i s hs).1⟩
theorem ArrS.len {ρ : X → List AV → Asr} {eT : TypeId} {x : Bool} {v : AV} {xs : Sl X} (H : ArrS ρ es eT x v xs h S) : lenA v = some xs.list.length ∧ (∀ s, v ≠ .str s) ∧ q0P v = true ∧ cellsOf v = some [v] := by
 cases xs with
 | nil => cases H; exact ⟨rfl, nofun, rfl, rfl⟩
 | mk l => obtain ⟨r, rows, Ss, rfl, _⟩ := H; exact ⟨rfl, nofun, rfl, rfl⟩
theorem ArrS.at {ρ : X → List AV → Asr} {eT : TypeId} {x : Bool} {v : AV} {xs : Sl X} {a : X} (hρ : ∀ a row, Locl (ρ a row)) (H : ArrS ρ es eT x v xs h S) (ha : xs.list[i]? = some a) :
    ∃ (r : Nat) (rows : List (List AV)) (row : List AV) (Si : Nat → Prop), v = .sl r 0 xs.list.length xs.list.length es x ∧ S r ∧ h.get r = some (.cells eT rows.flatten) ∧ q3l es rows ∧ rows[i]? = some row ∧ row.length = es ∧ (∀ s, Si s → S s ∧ s ≠ r) ∧ ρ a row h Si ∧
      ∀ (g : Hp) (T : Nat → Prop) (a' : X) (row' : List AV), row'.length = es → g.get r = some (.cells eT (rows.set i row').flatten) → (∀ s, S s → ¬ Si s → s ≠ r → g.get s = h.get s) → (∀ s, T s → Si s ∨ ¬ S s) → ρ a' row' g T → ∀ S', (∀ s, S s → S' s) → (∀ s, T s → S' s) → ArrS ρ es eT x v (.mk (xs.list.set i a')) g S' := by
  cases xs with
  | nil => simp [Sl.list] at ha
  | mk l =>
    obtain ⟨r, rows, Ss, rfl, h2, h3, h4, h5, h6, h7, h8⟩ := H
    have hil : i < l.length := (List.getElem?_eq_some_iff.1 ha).1
    obtain ⟨row, hrow⟩ := q0g (l := rows) (i := i) (by omega)
    refine ⟨r, rows, row, Ss i, rfl, h2, h3, h5, hrow, h5 row (List.mem_of_getElem? hrow), h6 i, h8 i a row ha hrow, fun g T a' row' q1 q2 q3 q4 q5 S' q6 q7 => ?_⟩
    refine ⟨r, rows.set i row', fun j s => if j = i then T s else Ss j s, by simp [Sl.list], q6 r h2, q2, by simp [Sl.list, h4], q2u h5 q1, fun j s hs => ?_, fun j k s hj hk => ?_, fun j b row2 hb hr2 => ?_⟩
    · dsimp only at hs
      split at hs
      · refine ⟨q7 s hs, fun e => ?_⟩
        subst e
        rcases q4 s hs with h | h
        · exact (h6 i s h).2 rfl
        · exact h h2
      · exact ⟨q6 s (h6 j s hs).1, (h6 j s hs).2⟩
    · dsimp only at hj hk
      split at hj <;> split at hk
      · omega
      · rcases q4 s hj with h | h
        · have := h7 _ _ _ h hk; omega
        · exact absurd (h6 k s hk).1 h
      · rcases q4 s hk with h | h
        · have := h7 _ _ _ h hj; omega
        · exact absurd (h6 j s hj).1 h
      · exact h7 _ _ _ hj hk
    · by_cases e : j = i
      · subst e
        simp [Sl.list, hil] at hb
        rw [List.getElem?_set_self (by omega)] at hr2
        cases hb; cases hr2
        simpa using q5
      · simp [Sl.list, Ne.symm e] at hb
        rw [List.getElem?_set_ne (Ne.symm e)] at hr2
        have hq : (fun s => if j = i then T s else Ss j s) = Ss j := funext fun s => by simp [e]
        dsimp only
        rw [hq]
        refine hρ b row2 _ _ _ _ (h8 j b row2 hb hr2) (fun _ h => h) fun s hs => q3 s (h6 j s hs).1 (fun h => ?_) (h6 j s hs).2
        have := h7 _ _ _ h hs; omega
def pushSl (s : Sl X) (a : X) : Sl X := .mk (s.list ++ [a])
theorem ArrS.push {ρ : X → List AV → Asr} {t eT : TypeId} {v : AV} {xs : Sl X} {a : X} (hρ : ∀ a row, Locl (ρ a row)) (ht : slT C t eT es = true) (H : ArrS ρ es eT false v xs h S) (hb : ∀ r, S r → r < h.nx) (hrow : row.length = es) (hcell : row.all q0P = true) (hlen : xs.list.length < 1000000)
    (hr : ρ a row h S') (hS : ∀ s, S' s → ¬ S s ∧ s < h.nx) :
    ∃ v' h', q0S C t t v (.sl h.nx 0 1 1 es true) (h.new (.cells eT row)) = some (v', h') ∧ ArrS ρ es eT false v' (pushSl xs a) h' (fun s => S s ∨ S' s ∨ s = h.nx + 1) ∧ (∀ s, s < h.nx → ¬ S s → h'.get s = h.get s) ∧ h'.nx = h.nx + 2 := by
  cases xs with
  | nil =>
    cases H
    obtain ⟨v', h', q1, q2, q3, q4⟩ := (Own.nil (es := es) (eT := eT) (b := h.nx) (h := h)).push (t := t) ht nofun hrow hcell (by simp) (Nat.le_refl _)
    rcases q2 with ⟨_, h2⟩ | ⟨_, r, h2, h3, rfl, h5⟩
    · simp at h2
    have hrn : r = h.nx + 1 := by
      rcases (q9c q1).2.2 _ _ _ _ _ _ rfl with e | ⟨_, _, _, _, _, e⟩
      · rw [e, nx_new]
      · cases e
    subst hrn
    refine ⟨_, h', q1, ⟨h.nx + 1, [row], fun i s => i = 0 ∧ S' s, rfl, .inr (.inr rfl), by simpa using h5, rfl, fun c hc => by rw [List.mem_singleton.1 hc]; exact hrow, fun i s hs => ⟨.inr (.inl hs.2), fun e => by have := (hS s hs.2).2; omega⟩, fun i j s hi hj => by omega, fun i b r2 hb hr2 => ?_⟩, fun s hs _ => q3.get s hs, q4⟩
    cases i with
    | zero =>
      simp [Sl.list] at hb hr2
      subst hb hr2
      exact hρ _ _ _ _ _ _ hr (fun s hs => ⟨rfl, hs⟩) fun s hs => q3.get s (hS s hs).2
    | succ i => simp at hr2
  | mk l =>
    obtain ⟨r, rows, Ss, rfl, h2, h3, h4, h5, h6, h7, h8⟩ := H
    have hrn := hb r h2
    have key : ∃ v' h', q0S C t t (.sl r 0 l.length l.length es false) (.sl h.nx 0 1 1 es true) (h.new (.cells eT row)) = some (v', h') ∧ v' = .sl (h.nx + 1) 0 (l.length + 1) (l.length + 1) es false ∧ h' = ((h.new (.cells eT row)).put r .dead).new (.cells eT (rows.flatten ++ row)) := by
      unfold slT at ht
      split at ht
      case h_2 => cases ht
      rename_i e size isAgg zero zeroOk bytes comparable zv y hti hy
      simp only [Bool.and_eq_true, decide_eq_true_eq] at ht
      obtain ⟨rfl, hys, hz, hby⟩ := ht
      have hfl := q4L h5
      have hg' : (h.new (.cells e row)).get r = some (.cells e rows.flatten) := by rw [get_new, if_neg (by omega)]; exact h3
      have hsrc : q1e (h.new (.cells e row)) y.size 1 (.sl h.nx 0 1 1 es true) = some row := by
        unfold q1e
        simp [get_new, sub, hys, ← hrow]
      refine ⟨_, _, ?_, rfl, rfl⟩
      unfold q0S
      have b1 : Nat.ble y.bytes 1000000 = true := Nat.ble_eq_true_of_le hby
      have b2 : Nat.beq row.length (Nat.mul 1 y.size) = true := by rw [hrow, hys, Nat.mul_eq, Nat.one_mul, Nat.beq_refl]
      have e1 : Nat.beq es y.size = true := by rw [hys, Nat.beq_refl]
      have e2 : Nat.ble (Nat.add 0 (Nat.mul l.length es)) rows.flatten.length = true := Nat.ble_eq_true_of_le (by rw [hfl, h4]; simp)
      have e3 : Nat.ble (Nat.add l.length 1) 1000000 = true := Nat.ble_eq_true_of_le (by simp [Sl.list] at hlen ⊢; omega)
      have e4 : Nat.ble (Nat.add l.length 1) l.length = false := by
        cases hc : Nat.ble (Nat.add l.length 1) l.length with
        | false => rfl
        | true => have := Nat.le_of_ble_eq_true hc; simp at this; omega
      have e5 : Nat.ble (Nat.mul l.length es) rows.flatten.length = true := Nat.ble_eq_true_of_le (by rw [hfl, h4]; exact Nat.le_refl _)
      have e6 : rows.flatten.take (Nat.mul l.length es) = rows.flatten := List.take_of_length_le (by rw [hfl, h4]; exact Nat.le_refl _)
      simp only [hti, hy, lenA, q8I, hsrc, hcell, hz, b1, b2, hg', e1, e2, e3, e4, e5, e6, Nat.beq_refl, Bool.and_self, cond_true, cond_false, Bool.not_true]
      rfl
    obtain ⟨v', h', q1, rfl, rfl⟩ := key
    have same : ∀ s, s < h.nx → s ≠ r → (((h.new (.cells eT row)).put r .dead).new (.cells eT (rows.flatten ++ row))).get s = h.get s := fun s hs hne => by
      rw [get_new, if_neg (by rw [nx_put, nx_new]; omega), get_put, if_neg (Ne.symm hne), get_new, if_neg (by omega)]
    refine ⟨_, _, q1, ⟨h.nx + 1, rows ++ [row], fun j s => if j = rows.length then S' s else Ss j s, by simp [Sl.list], .inr (.inr rfl), by rw [get_new, if_pos (by rw [nx_put, nx_new])]; simp, by simp [Sl.list, h4], fun c hc => ?_, fun j s hs => ?_, fun j k s hj hk => ?_, fun j b row2 hb2 hr2 => ?_⟩, fun s hs hn => same s hs fun e => hn (e ▸ h2), by rw [nx_new, nx_put, nx_new]⟩
    · rcases List.mem_append.1 hc with hc | hc
      · exact h5 c hc
      · rw [List.mem_singleton.1 hc]; exact hrow
    · dsimp only at hs
      split at hs
      · exact ⟨.inr (.inl hs), fun e => by have := (hS s hs).2; omega⟩
      · exact ⟨.inl (h6 j s hs).1, fun e => by have := hb s (h6 j s hs).1; omega⟩
    · dsimp only at hj hk
      split at hj <;> split at hk
      · omega
      · exact absurd (h6 k s hk).1 (hS s hj).1
      · exact absurd (h6 j s hj).1 (hS s hk).1
      · exact h7 _ _ _ hj hk
    · by_cases e : j = rows.length
      · subst e
        rw [List.getElem?_append_right (by omega)] at hr2
        have hb3 : (l ++ [a])[rows.length]? = some b := hb2
        rw [h4, List.getElem?_append_right (by omega)] at hb3
        simp at hr2 hb3
        subst hr2 hb3
        have hq : (fun s => if rows.length = rows.length then S' s else Ss rows.length s) = S' := funext fun s => by simp
        dsimp only
        rw [hq]
        exact hρ _ _ _ _ _ _ hr (fun _ h => h) fun s hs => same s (hS s hs).2 fun e => (hS s hs).1 (e ▸ h2)
      · have hj : j < rows.length := by
          have := (List.getElem?_eq_some_iff.1 hr2).1
          simp at this; omega
        rw [List.getElem?_append_left hj] at hr2
        have hb3 : (l ++ [a])[j]? = some b := hb2
        rw [List.getElem?_append_left (by omega)] at hb3
        have hq : (fun s => if j = rows.length then S' s else Ss j s) = Ss j := funext fun s => by simp [e]
        dsimp only
        rw [hq]
        exact hρ _ _ _ _ _ _ (h8 j b row2 hb3 hr2) (fun _ h => h) fun s hs => same s (hb s (h6 j s hs).1) (h6 j s hs).2
theorem ArrS.rd {ρ : X → List AV → Asr} {eT : TypeId} {x : Bool} {v : AV} {xs : Sl X} {k : Nat} {enc : X → List AV} (hρ : ∀ a row h S, ρ a row h S → RdL S h k row (enc a)) (H : ArrS ρ es eT x v xs h S) : RdF S h (k + 1) v (xs.av enc) := by
  cases xs with
  | nil => cases H; exact fun g hg => rfl
  | mk l =>
    obtain ⟨r, rows, Ss, rfl, h2, h3, h4, h5, h6, h7, h8⟩ := H
    intro g hg
    have hfl := q4L h5
    have all : ∀ (rows : List (List AV)) (l : List X), rows.length = l.length → (∀ (i : Nat) (a : X) (row : List AV), l[i]? = some a → rows[i]? = some row → mapO (frzV k g) row = some (enc a)) → mapO (mapO (frzV k g)) rows = some (l.map enc) := by
      intro rows
      induction rows with
      | nil => intro l hl _; obtain rfl := List.eq_nil_of_length_eq_zero hl.symm; rfl
      | cons c rs ih =>
        intro l hl hh
        cases l with
        | nil => simp at hl
        | cons a l =>
          simp only [mapO, List.map_cons, hh 0 a c rfl rfl, ih l (by simpa using hl) fun i b row hb hr => hh (i + 1) b row hb hr]
    have hch : ∀ (rows : List (List AV)), q3l es rows → chunks es rows.length rows.flatten = rows := by
      intro rows
      induction rows with
      | nil => intro _; rfl
      | cons c l ih =>
        intro hc
        have h1 := hc c List.mem_cons_self
        show ((c ++ l.flatten).take es) :: chunks es l.length ((c ++ l.flatten).drop es) = _
        rw [List.take_left' h1, List.drop_left' h1, ih fun x hx => hc x (List.mem_cons_of_mem _ hx)]
    have h9 := all rows l h4 fun i a row ha hr => hρ a row h (Ss i) (h8 i a row ha hr) g fun s hs => hg s (h6 i s hs).1
    unfold frzV
    dsimp only
    rw [hg r h2, h3]
    dsimp only
    rw [show Nat.ble (Nat.add 0 (Nat.mul l.length es)) rows.flatten.length = true from Nat.ble_eq_true_of_le (by rw [hfl, h4]; simp), List.drop_zero, ← h4, hch rows h5, h9]
    rfl
end Go.Ax
set_option maxRecDepth 20000
noncomputable section
namespace Go.Ax
open Go.Proofs
attribute [local irreducible] TW TO CallsT q0y
variable {F : Nat → Option Obj} {gl : Nat → AV} {K : Knob} {S S' : Nat → Prop}
def IntS (v : AV) (s : Sl Int) (h : Hp) (S : Nat → Prop) : Prop := v = s.av cI ∨ ∃ (r : Nat) (x : Bool) (l : List Int), s = .mk l ∧ v = .sl r 0 l.length l.length 1 x ∧ S r ∧ h.get r = some (.cells q0C (l.map (.int .i64)))
theorem IntS.locl {v : AV} {s : Sl Int} : Locl (IntS v s) := fun h g S S' H hS hg => by
 rcases H with H | ⟨r, x, l, h1, h2, h3, h4⟩
 ·exact .inl H
 ·exact .inr ⟨r, x, l, h1, h2, hS r h3, (hg r h3).trans h4⟩
theorem IntS.cell {v : AV} {s : Sl Int} {h : Hp} (H : IntS v s h S) : q0P v = true ∧ cellsOf v = some [v] := by
 rcases H with rfl | ⟨r, x, l, h1, rfl, _⟩
 ·exact ⟨q8U s, q7y s⟩
 ·exact ⟨rfl, rfl⟩
theorem IntS.rd {v : AV} {s : Sl Int} {h : Hp} (H : IntS v s h S) : RdF S h 2 v (s.av cI) := by
 rcases H with rfl | ⟨r, x, l, rfl, rfl, h3, h4⟩
 ·exact fun g hg => q6R (fun _ => rfl) s
 ·intro g hg
  have h5 : g.get r = _ := (hg r h3).trans h4
  unfold frzV
  dsimp only
  rw [h5]
  dsimp only
  rw [List.drop_zero, q7V]
  have h6 : Nat.ble (Nat.add 0 (Nat.mul l.length 1)) (l.map (AV.int .i64)).length = true := Nat.ble_eq_true_of_le (by simp)
  rw [h6, cond_true, z1l (k := 0)]
  rfl
theorem IntS.rdI {v : AV} {s : Sl Int} {h : Hp} (H : IntS v s h S) (hb : ∀ r, S r → r < h.nx) : RdI h v s.list := by
 rcases H with rfl | ⟨r, x, l, rfl, rfl, h3, h4⟩
 ·exact rdI_av h s
 ·exact .inr (.inr ⟨r, 0, l.length, x, q0C, _, rfl, hb r h3, h4, by simp [Sl.list], fun i hi => by simp [Sl.list] at hi ⊢⟩)
def InsS (x : LIns) (row : List AV) (h : Hp) (S : Nat → Prop) : Prop := ∃ va vf, row = [.int .u8 x.op, .int .i64 x.type, .int .i64 x.a, .int .i64 x.b, .int .i64 x.n, va, vf] ∧ IntS va x.args h S ∧ IntS vf x.frm h S
theorem InsS.locl (x : LIns) (row : List AV) : Locl (InsS x row) := fun h g S S' ⟨va, vf, h1, h2, h3⟩ hS hg => ⟨va, vf, h1, IntS.locl _ _ _ _ h2 hS hg, IntS.locl _ _ _ _ h3 hS hg⟩
theorem InsS.rd {x : LIns} {row : List AV} {h : Hp} (H : InsS x row h S) : RdL S h 2 row x.cells := by
 obtain ⟨va, vf, rfl, h2, h3⟩ := H
 exact .cons q0N (.cons q0N (.cons q0N (.cons q0N (.cons q0N (.cons h2.rd (.cons h3.rd .nil))))))
def BlkS (b : LBlock) (row : List AV) (h : Hp) (S : Nat → Prop) : Prop := ∃ u, row = u :: b.ed.cells ∧ ArrS InsS 7 q0M false u b.ins h S
theorem BlkS.locl (b : LBlock) (row : List AV) : Locl (BlkS b row) := fun h g S S' ⟨u, h1, h2⟩ hS hg => ⟨u, h1, ArrS.locl InsS.locl _ _ _ _ h2 hS hg⟩
theorem BlkS.rd {b : LBlock} {row : List AV} {h : Hp} (H : BlkS b row h S) : RdL S h 3 row b.cells := by
 obtain ⟨u, rfl, h2⟩ := H
 exact .cons (h2.rd fun _ _ _ _ => InsS.rd) (.cons q0N (.cons q0N (.cons q0N (.cons q0N .nil))))
abbrev BlksS (v : AV) (l : Sl LBlock) : Asr := ArrS BlkS 5 q0s false v l
theorem push_of {X : Type} (l : List X) (a : X) : pushSl (Sl.of l) a = Sl.of (l ++ [a]) := by
 unfold pushSl
 rw [Sl.of_list]
 cases l <;> rfl
theorem app_intS (x : Sl Int) (hx : x.list.length ≤ 1000000) (h : Hp) : ∃ v' h', q0S (Ctx.of Tryz.prog gl K) q0u q0u (.sl h.nx 0 0 0 1 true) (x.av cI) (h.new (.cells q0C [])) = some (v', h') ∧ Wid h h' ∧
  ∃ p, h.nx ≤ p ∧ p < h'.nx ∧ IntS v' (.mk x.list) h' (fun r => r = p) := by
 obtain ⟨v', h', h1, h2, h3, h4, p, h5, h6, h7, ⟨ex, h8⟩, h9⟩ := app_empty (q := h.nx) (k := 1) (h := h.new (.cells q0C [])) (x := x.av cI) (rows := x.list.map cI) (fz := x.list.map cI) (n := x.list.length) (S := fun _ => False) (xt := q0u) (q0Q (gl := gl) (K := K)) q3W (by simp [get_new]) (by simp [nx_new]) (lenA_av x) (by simp) (src_ints' x) q1a q6x hx (rdR_ints _) nofun
 have e : ∀ l : List Int, (l.map cI).flatten = l.map (.int .i64) := fun l => by induction l with | nil => rfl | cons a l ih => simp [ih]
 refine ⟨v', h', h1, ⟨by have := nx_new (h := h) (o := .cells q0C []); omega, fun r hr => ?_⟩, p, ?_, h6, .inr ⟨p, ex, x.list, rfl, h8, rfl, by rw [h9, e]⟩⟩
 ·rw [h2 r (by rw [nx_new]; omega), get_new, if_neg (by omega)]
 ·have := nx_new (h := h) (o := .cells q0C []); omega
theorem q5P {h g : Hp} (hw : Wid h g) (hS : ∀ r, S r → r < h.nx) : Agr S h g := fun r hr => hw.get r (hS r hr)
set_option maxHeartbeats 2000000 in
theorem TwinBlocks_mem (hP : POk Tryz.prog F gl K) (l : Sl LBlock) (hlen : l.list.length < 1000000) (hb : ∀ x ∈ l.list, x.ins.list.length < 1000000 ∧ ∀ y ∈ x.ins.list, y.args.list.length < 1000000 ∧ y.frm.list.length < 1000000) (h0 : Hp) :
  CallsT Tryz.prog F h0 (fun u g => Wid h0 g ∧ ∃ S, (∀ s, S s → h0.nx ≤ s ∧ s < g.nx) ∧ BlksS u (.of (l.list.map q1H)) g S) q0r [l.av LBlock.cells] := by
 refine CallsT.body hP q0e q4x rfl rfl ?_
 repeat' first | refine TW.seq ?_ | refine TW.block ?_ | (refine TW.regG hP (by simp <;> rfl) ?_; dsimp only [goK])
 refine TW.loopL (fun p : Nat × AV => [(0, l.av LBlock.cells), (3, p.2), (4, .int .i64 p.1)]) (fun p g => p.1 ≤ l.list.length ∧ Wid h0 g ∧ ∃ S, (∀ s, S s → h0.nx ≤ s ∧ s < g.nx) ∧ BlksS p.2 (.of ((l.list.take p.1).map q1H)) g S) (fun p => l.list.length - p.1) ((0, .nilsl)) ?_ ?_ ?_
 focus (repeat' first | exact q0c | refine q0b (by simp) ?_)
 ·exact ⟨Nat.zero_le _, .refl _, fun _ => False, nofun, rfl⟩
 rintro ⟨i, v⟩ g ⟨hi, hw0, S, hS, hown⟩
 dsimp only at hi hown ⊢
 repeat' first | refine TW.seq ?_ | (refine TW.regG hP (by simp <;> rfl) ?_; dsimp only [goK]) | simp only [q0a]
 refine TW.cond hP rfl (fun hc => TW.skip ?_) (fun hc => TW.exit ?_)
 ·simp at hc
  obtain ⟨x, hx⟩ := q0g hc
  have hav := q0z (e := LBlock.cells) (show 0 < l.list.length by omega)
  obtain ⟨hx1, hx2⟩ := hb x (List.mem_of_getElem? hx)
  dsimp only [q0a]
  refine TW.seq ?_
  refine TW.block ?_
  refine TW.seq (TW.regG hP (by simp [hx, hav] <;> rfl) ?_)
  dsimp only [goK, q0a, q0f, q0d]
  refine TW.gen (fun k => k.get g.nx = some (.cells q0s (.nilsl :: x.ed.cells)) ∧ Wid g k ∧ k.nx = g.nx + 1) ⟨by simp, ((Wid.refl g).new _).put (by simp) _, by simp⟩ fun k hk => ?_
  obtain ⟨hk, hw, hn⟩ := hk
  repeat' first | refine TW.seq ?_ | refine TW.block ?_ | (refine TW.regG hP (by simp <;> rfl) ?_; dsimp only [goK])
  refine TW.loopL (fun p : Nat × AV => [(0, l.av LBlock.cells), (3, v), (4, .int .i64 i), (5, .ptr g.nx 0), (6, .int .i64 p.1)]) (fun p m => p.1 ≤ x.ins.list.length ∧ m.get g.nx = some (.cells q0s (p.2 :: x.ed.cells)) ∧ Wid g m ∧ g.nx < m.nx ∧ ∃ S, (∀ s, S s → g.nx < s ∧ s < m.nx) ∧ ArrS InsS 7 q0M false p.2 (.of ((x.ins.list.take p.1).map q8t)) m S) (fun p => x.ins.list.length - p.1) ((0, .nilsl)) ?_ ?_ ?_
  focus (repeat' first | exact q0c | refine q0b (by simp [hav]) ?_)
  ·exact ⟨Nat.zero_le _, hk, hw, by omega, fun _ => False, nofun, rfl⟩
  rintro ⟨j, u⟩ m ⟨hj, hm, hwm, hnm, Si, hSi, hin⟩
  dsimp only [q0s, LEnd.cells] at hj hm hin ⊢
  repeat' first | refine TW.seq ?_ | (refine TW.regG hP (by simp [hx, hav] <;> rfl) ?_; dsimp only [goK]) | simp only [q0a]
  refine TW.cond hP rfl (fun hc => TW.skip ?_) (fun hc => TW.exit ?_)
  ·simp at hc
   obtain ⟨y, hy⟩ := q0g hc
   have hiv := q0z (e := LIns.cells) (show 0 < x.ins.list.length by omega)
   obtain ⟨hy1, hy2⟩ := hx2 y (List.mem_of_getElem? hy)
   dsimp only [q0a]
   refine TW.seq ?_
   refine TW.block ?_
   refine TW.seq (TW.regG hP (by simp [hx, hy, hiv] <;> rfl) ?_)
   dsimp only [goK, q0a, q0f, q0d]
   refine TW.gen (fun k => k.get m.nx = some (.cells q0M y.cells) ∧ Wid m k ∧ k.nx = m.nx + 1) ⟨by simp, ((Wid.refl m).new _).put (by simp) _, by simp⟩ fun k hk => ?_
   obtain ⟨hk, hw2, hn2⟩ := hk
   dsimp only [q0M, LIns.cells] at hk
   obtain ⟨v1, k1, a1, a2, p, a5, a6, a7⟩ := app_intS (gl := gl) (K := K) y.args (by omega) k
   obtain ⟨a3, a4⟩ := a7.cell
   dsimp only [q0u, q0C] at a1
   have hk1 : k1.get m.nx = _ := a2.at hk (by omega)
   have hne : ¬ k.nx = m.nx := by omega
   refine TW.seq (TW.regG hP (by simp [hk, a1, hk1, a4, a3, hne] <;> rfl) ?_)
   dsimp only [goK, q0a, q0f, q0d]
   refine TW.gen (fun m1 => m1.get m.nx = some (.cells q0M [.int .u8 y.op, .int .i64 y.type, .int .i64 y.a, .int .i64 y.b, .int .i64 y.n, v1, y.frm.av cI]) ∧ Wid m m1 ∧ IntS v1 (.mk y.args.list) m1 (fun r => r = p) ∧ p < m1.nx) ⟨by simp [get_put], (hw2.trans a2).put (Nat.le_refl _) _, IntS.locl _ _ _ _ a7 (fun _ h => h) fun r hr => by rw [get_put, if_neg (by omega)], by simpa using a6⟩ fun m1 hm1 => ?_
   obtain ⟨hm1, hwm1, a7', a6'⟩ := hm1
   dsimp only [q0M] at hm1
   obtain ⟨v2, k2, b1, b2, p2, b5, b6, b7⟩ := app_intS (gl := gl) (K := K) y.frm (by omega) m1
   obtain ⟨b3, b4⟩ := b7.cell
   dsimp only [q0u, q0C] at b1
   have hk2 : k2.get m.nx = _ := b2.at hm1 (by omega)
   have hne2 : ¬ m1.nx = m.nx := by omega
   refine TW.seq (TW.regG hP (by simp [hm1, b1, hk2, b4, b3, hne2] <;> rfl) ?_)
   dsimp only [goK, q0a, q0f, q0d]
   refine TW.gen (fun m2 => m2.get m.nx = some (.cells q0M [.int .u8 y.op, .int .i64 y.type, .int .i64 y.a, .int .i64 y.b, .int .i64 y.n, v1, v2]) ∧ Wid m m2 ∧ IntS v1 (.mk y.args.list) m2 (fun r => r = p) ∧ IntS v2 (.mk y.frm.list) m2 (fun r => r = p2) ∧ p < m2.nx ∧ p2 < m2.nx) ⟨by simp [get_put], (hwm1.trans b2).put (Nat.le_refl _) _, IntS.locl _ _ _ _ a7' (fun _ h => h) fun r hr => by rw [get_put, if_neg (by omega)]; exact b2.get r (by omega), IntS.locl _ _ _ _ b7 (fun _ h => h) fun r hr => by rw [get_put, if_neg (by omega)], by have := b2.nx; simp; omega, by simpa using b6⟩ fun m2 hm2 => ?_
   obtain ⟨hm2, hwm2, c1, c2, c3, c4⟩ := hm2
   have hnm2 := hwm2.nx
   have hin2 := ArrS.locl InsS.locl _ m2 _ Si hin (fun _ h => h) (q5P hwm2 fun r hr => (hSi r hr).2)
   obtain ⟨v', h', q1, q2, q3, q4⟩ := hin2.push (t := q3V) (row := [.int .u8 y.op, .int .i64 y.type, .int .i64 y.a, .int .i64 y.b, .int .i64 y.n, v1, v2]) (a := q8t y) (S' := fun r => r = p ∨ r = p2) InsS.locl (z1j (gl := gl) (K := K)) (fun r hr => by have := hSi r hr; omega) rfl (by simp [a3, b3]) (by rw [Sl.of_list]; simp; omega) ⟨v1, v2, rfl, IntS.locl _ _ _ _ c1 (fun _ h => .inl h) .refl, IntS.locl _ _ _ _ c2 (fun _ h => .inr h) .refl⟩ (fun s hs => ⟨fun hs2 => by have := hSi s hs2; rcases hs with rfl | rfl <;> omega, by rcases hs with rfl | rfl <;> omega⟩)
   have hm2b : m2.get g.nx = _ := hwm2.at hm hnm
   have hb' : h'.get g.nx = _ := (q3 g.nx (by omega) (fun hs => by have := hSi _ hs; omega)).trans hm2b
   dsimp only [q3V, q0M] at q1 hm2
   have hne3 : ¬ m2.nx = g.nx := by omega
   obtain ⟨_, _, d1, d2⟩ := q2.len
   repeat' first | (refine TW.regG hP (by simp [hm2, q1, hm2b, hb', d1, d2] <;> rfl) ?_; dsimp only [goK]) | simp only [q0d]
   refine ⟨(j + 1, v'), by dsimp only; omega, trivial, ?_, by dsimp only; omega, ?_, ?_, ?_, (fun s => Si s ∨ (s = p ∨ s = p2) ∨ s = m2.nx + 1), ?_, ?_⟩
   ·repeat' first | exact q0c | refine q0b (by simp [hav, w64s (show j < 9000000000000000000 by omega)]) ?_
   ·simp [get_put]
   ·have := hwm.nx
    refine Wid.put ⟨by omega, fun r hr => ?_⟩ (Nat.le_refl _) _
    rw [q3 r (by omega) (fun hs => by have := hSi _ hs; omega), hwm2.get r (by omega), hwm.get r hr]
   ·simp; omega
   ·rintro s (hs | hs | hs)
    ·have := hSi s hs; rw [nx_put]; omega
    ·rw [nx_put]; rcases hs with rfl | rfl <;> omega
    ·rw [nx_put]; omega
   ·dsimp only; rw [q2x hy, ← push_of]
    refine ArrS.locl InsS.locl _ _ _ _ q2 (fun _ h => h) fun s hs => ?_
    rw [get_put, if_neg]
    rintro rfl
    rcases hs with hs | hs | hs
    ·have := hSi _ hs; omega
    ·rcases hs with e | e <;> omega
    ·omega
  ·simp at hc
   dsimp only [q0a]
   rw [List.take_of_length_le hc] at hin
   obtain ⟨_, _, d1, d2⟩ := hin.len
   have hown2 := ArrS.locl BlkS.locl _ m _ S hown (fun _ h => h) (q5P hwm fun r hr => (hS r hr).2)
   obtain ⟨v', h', q1, q2, q3, q4⟩ := hown2.push (t := q1D) (row := u :: x.ed.cells) (a := q1H x) (S' := Si) BlkS.locl (q7t (gl := gl) (K := K)) (fun r hr => by have := hS r hr; omega) rfl (by simp [d1]) (by rw [Sl.of_list]; simp; omega) ⟨u, rfl, hin⟩ (fun s hs => ⟨fun hs2 => by have := hS s hs2; have := hSi s hs; omega, (hSi s hs).2⟩)
   dsimp only [q1D, q0s, LEnd.cells] at q1
   repeat' first | (refine TW.regG hP (by simp [hm, q1] <;> rfl) ?_; dsimp only [goK]) | simp only [q0d]
   have h1 := hw0.nx
   refine ⟨(i + 1, v'), by dsimp only; omega, trivial, ?_, by dsimp only; omega, ?_, (fun s => S s ∨ Si s ∨ s = m.nx + 1), ?_, ?_⟩
   ·repeat' first | exact q0c | refine q0b (by simp [hav, w64s (show i < 9000000000000000000 by omega)]) ?_
   ·refine ⟨by omega, fun r hr => ?_⟩
    rw [q3 r (by omega) (fun hs => by have := hS _ hs; omega), hwm.get r (by omega), hw0.get r hr]
   ·rintro s (hs | hs | hs)
    ·have := hS s hs; omega
    ·have := hSi s hs; omega
    ·omega
   ·dsimp only; rw [q2x hx, ← push_of]; exact q2
 ·simp at hc
  dsimp only [q0a]
  rw [List.take_of_length_le hc] at hown
  repeat' first | refine TW.seq ?_ | (refine TW.regG hP (by simp <;> rfl) ?_; dsimp only [goK]) | simp only [q0a] | (refine TW.ret ⟨.inr rfl, _, _, rfl, rfl, ?_⟩; dsimp only [q0h])
  exact ⟨hw0, S, hS, hown⟩
def tn (t : List Int) (r : Int) : Int := (t[r.toNat]?).getD 0
theorem own_intS {b : Nat} {h : Hp} {v : AV} {l : List Int} (H : Own 1 q0C b h v (l.map cI)) : ∃ S, (∀ s, S s → b ≤ s ∧ s < h.nx) ∧ IntS v (.of l) h S := by
 have e : ∀ l : List Int, (l.map cI).flatten = l.map (.int .i64) := fun l => by induction l with | nil => rfl | cons a l ih => simp [ih]
 rcases H with ⟨rfl, h2⟩ | ⟨hne, r, h2, h3, rfl, h5⟩
 ·have : l = [] := by simpa using h2
  subst this
  exact ⟨fun _ => False, nofun, .inl rfl⟩
 ·refine ⟨fun s => s = r, fun s hs => by omega, .inr ⟨r, false, l, ?_, by simp, rfl, by rw [h5, e]⟩⟩
  cases l with
  | nil => simp at hne
  | cons a l => rfl
theorem to27_mem (hP : POk Tryz.prog F gl K) (h0 : Hp) (v : AV) (xs : List Int) (hr : RdI h0 v xs) (t : Sl Int) (hlen : xs.length < 1000000) (hx : ∀ x ∈ xs, 0 ≤ x ∧ x < t.list.length) :
  CallsT Tryz.prog F h0 (fun u g => Wid h0 g ∧ ∃ S, (∀ s, S s → h0.nx ≤ s ∧ s < g.nx) ∧ IntS u (.of (xs.map (tn t.list))) g S) q5R [v, t.av cI] := by
 have hl := fun g => hr.lenOf (q0Q (gl := gl) (K := K)) g
 dsimp only [q0u, q0C] at hl
 refine CallsT.body hP q0e E_fescueref27_to rfl rfl ?_
 repeat' first | refine TW.seq ?_ | refine TW.block ?_ | (refine TW.regG hP (by simp <;> rfl) ?_; dsimp only [goK])
 refine TW.loopL (fun p : Nat × AV => [(0, v), (1, t.av cI), (5, p.2), (6, .int .i64 p.1)]) (fun p g => p.1 ≤ xs.length ∧ Wid h0 g ∧ Own 1 q0C h0.nx g p.2 (((xs.take p.1).map (tn t.list)).map cI)) (fun p => xs.length - p.1) ((0, .nilsl)) ?_ ?_ ?_
 focus (repeat' first | exact q0c | refine q0b (by simp) ?_)
 ·exact ⟨Nat.zero_le _, .refl _, .nil⟩
 rintro ⟨i, u⟩ g ⟨hi, hw, hown⟩
 dsimp only at hi hown ⊢
 repeat' first | refine TW.seq ?_ | (refine TW.regG hP (by simp [hl] <;> rfl) ?_; dsimp only [goK]) | simp only [q0a]
 refine TW.cond hP rfl (fun hc => TW.skip ?_) (fun hc => TW.exit ?_)
 ·simp at hc
  obtain ⟨x, hxi⟩ := q0g hc
  obtain ⟨hx1, hx2⟩ := hx x (List.mem_of_getElem? hxi)
  obtain ⟨n, rfl⟩ := Int.eq_ofNat_of_zero_le hx1
  obtain ⟨y, hy⟩ := q0g (show n < t.list.length by omega)
  have hav := q0z (e := cI) (show 0 < t.list.length by omega)
  obtain ⟨p, hp1, hp2⟩ := (hr.wid hw).at' (q0Q (gl := gl) (K := K)) (by simp) (q := .i64) hc
  have hp2 := hp2 g (.refl _)
  rw [(List.getElem?_eq_some_iff.1 hxi).2] at hp2
  dsimp only [q0u, q0C] at hp1 hp2
  obtain ⟨v', h', q1, q2, q3, q4⟩ := hown.push (t := q0u) (row := [.int .i64 y]) (q0Q (gl := gl) (K := K)) q1a rfl rfl (by simp; omega) hw.nx
  dsimp only [q0u, q0C] at q1
  dsimp only [q0a]
  repeat' first | refine TW.seq ?_ | refine TW.block ?_ | (refine TW.regG hP (by simp [hp1, hp2, hav, hy, q1] <;> rfl) ?_; dsimp only [goK]) | simp only [q0d]
  refine ⟨(i + 1, v'), by dsimp only; omega, trivial, ?_, by dsimp only; omega, ⟨by have := hw.nx; omega, fun r hr => (q3.get r hr).trans (hw.get r hr)⟩, ?_⟩
  ·repeat' first | exact q0c | refine q0b (by simp [hav, w64s (show i < 9000000000000000000 by omega)]) ?_
  ·dsimp only
   rw [q2x hxi, List.map_append]
   have : tn t.list ((n : Nat) : Int) = y := by simp [tn, hy]
   rw [this]; exact q2
 ·simp at hc
  dsimp only [q0a]
  rw [List.take_of_length_le hc] at hown
  obtain ⟨S, h1, h2⟩ := own_intS hown
  repeat' first | refine TW.seq ?_ | (refine TW.regG hP (by simp <;> rfl) ?_; dsimp only [goK]) | simp only [q0a] | (refine TW.ret ⟨.inr rfl, _, _, rfl, rfl, ?_⟩; dsimp only [q0h])
  exact ⟨hw, S, h1, h2⟩
end Go.Ax
set_option maxRecDepth 20000
noncomputable section
namespace Go.Ax
open Go.Proofs
section
variable {P : Program} {F : Nat → Option Obj} {gl : Nat → AV} {K : Knob} {n : Nat} {rd : Option Nat} {l : Kn} {h : Hp} {ds : List ADef} {Q : PQ} {all rest : List Oper}
theorem TO.ccall (hP : POk P F gl K) {g : FuncId} {x : Operand} {aas : Array Operand} {ts : Array TypeId} {d : Nat} {ty : TypeId} {pos : String} {aft : Array Edge} {gd : Option (Nat × Bool)} {first cap vs args : List AV} {O : AV → Hp → Prop}
  (hf : IsFn P g) (hc : CallsT P F h O g args) (hw : q5x all l ⟨some d, .call { callee := .value x, args := aas, argTypes := ts }, ty, pos, aft, gd⟩ = some true) (hb : Nat.blt d n = true)
  (hx : evK (Ctx.of P gl K) l x = some (.fn (.func g) first cap)) (ha : evsK (Ctx.of P gl K) l aas.toList = some vs) (he : first ++ vs ++ cap = args)
  (k : ∀ v h', O v h' → TO P F all rest n rd ((d, v) :: l) h' ds Q) : TO P F all (⟨some d, .call { callee := .value x, args := aas, argTypes := ts }, ty, pos, aft, gd⟩ :: rest) n rd l h ds Q := by
 subst he
 exact .ucall hP hw hb hx ha hf hc k
end
attribute [local irreducible] TW TO CallsT q0y
variable {F : Nat → Option Obj} {gl : Nat → AV} {K : Knob} {S S' : Nat → Prop}
def Sl.mf {α : Type} (f : α → α) (i : Nat) : Sl α → Sl α
 | .nil => .nil
 | .mk l => .mk ((l.take i).map f ++ l.drop i)
theorem mf_zero {α : Type} {f : α → α} (s : Sl α) : s.mf f 0 = s := by cases s <;> simp [Sl.mf]
theorem mf_len {α : Type} {f : α → α} {i : Nat} (s : Sl α) : (s.mf f i).list.length = s.list.length := by
 cases s with
 | nil => rfl
 | mk l => simp [Sl.mf, Sl.list]; omega
theorem mf_get {α : Type} {f : α → α} {i : Nat} (s : Sl α) : (s.mf f i).list[i]? = s.list[i]? := by
  cases s with
  | nil => rfl
  | mk l =>
    simp only [Sl.mf, Sl.list]
    by_cases h : i ≤ l.length
    · rw [List.getElem?_append_right (by simp; omega)]
      simp
      congr 1
      omega
    · rw [List.getElem?_eq_none (by simp; omega), List.getElem?_eq_none (by omega)]
theorem mf_set {α : Type} {f : α → α} {i : Nat} {a : α} {s : Sl α} (h : s.list[i]? = some a) : Sl.mk ((s.mf f i).list.set i (f a)) = s.mf f (i + 1) := by
  cases s with
  | nil => simp [Sl.list] at h
  | mk l =>
    obtain ⟨h1, rfl⟩ := List.getElem?_eq_some_iff.1 h
    have h1 : i < l.length := h1
    show Sl.mk (((l.take i).map f ++ l.drop i).set i (f l[i])) = Sl.mk ((l.take (i + 1)).map f ++ l.drop (i + 1))
    have hl : ((l.take i).map f).length = i := by simp; omega
    rw [List.set_append_right _ _ (by omega), hl, Nat.sub_self, List.drop_eq_getElem_cons h1, List.take_succ_eq_append_getElem h1, List.map_append, List.append_assoc]
    rfl
theorem mf_all {α : Type} {f : α → α} {i : Nat} {l : List α} (h : l.length ≤ i) : (Sl.of l).mf f i = Sl.of (l.map f) := by
  cases l with
  | nil => rfl
  | cons a l =>
    simp only [Sl.of, Sl.mf, List.map_cons]
    rw [List.take_of_length_le h, List.drop_of_length_le h]
    simp
def q7H (t : List Int) (x : LIns) : LIns := { x with a := if q2Y x.op = true then tn t x.a else x.a, b := if two6 x.op = true then tn t x.b else x.b, args := .of (x.args.list.map (tn t)), frm := .mk x.frm.list }
def turnE (t : List Int) (e : LEnd) : LEnd := { e with a := if e.kind = 2 ∨ e.kind = 3 then tn t e.a else e.a }
def q4E (t : List Int) (b : LBlock) : LBlock := { ins := .of (b.ins.list.map (q7H t)), ed := turnE t b.ed }
structure RegsIn (n : Nat) (b : LBlock) : Prop where
 ra : ∀ x ∈ b.ins.list, q2Y x.op = true → 0 ≤ x.a ∧ x.a < n
 rb : ∀ x ∈ b.ins.list, two6 x.op = true → 0 ≤ x.b ∧ x.b < n
 rg : ∀ x ∈ b.ins.list, ∀ r ∈ x.args.list, 0 ≤ r ∧ r < n
 re : b.ed.kind = 2 ∨ b.ed.kind = 3 → 0 ≤ b.ed.a ∧ b.ed.a < n
theorem turnB_twin (t : List Int) (b : LBlock) : q4E t (q1H b) = q4E t b := by
 unfold q4E q1H
 rw [Sl.of_list, List.map_map]
 rfl
theorem uses_op (op : Int) : q2f ⟨op, 0, 0, 0, 0, .nil, .nil⟩ = (if q2Y op = true then [0] else []) ++ (if two6 op = true then [0] else []) := by
 unfold q2f
 simp [Sl.list]
theorem two_hasA {op : Int} (h : two6 op = true) : q2Y op = true := by unfold q2Y; rw [h]; rfl
theorem lenA_slOf (l : List Int) : lenA (slOf l) = some l.length := by cases l <;> simp [slOf, lenA]
theorem str_slOf (l : List Int) (s : List Nat) : slOf l ≠ .str s := by cases l <;> simp [slOf]
def RowIs (eT : TypeId) (m : Hp) (q : Nat) (rows : List (List AV)) (j : Nat) (row : List AV) (m1 : Hp) : Prop := m1.nx = m.nx ∧ m1.get q = some (.cells eT (rows.set j row).flatten) ∧ ∀ s, s ≠ q → m1.get s = m.get s
theorem RowIs.put {eT : TypeId} {m m1 : Hp} {q j : Nat} {rows : List (List AV)} {row row' : List AV} (H : RowIs eT m q rows j row m1) : RowIs eT m q rows j row' (m1.put q (.cells eT ((rows.set j row).set j row').flatten)) :=
 ⟨H.1, by rw [get_put, if_pos rfl, List.set_set], fun s hs => by rw [get_put, if_neg (Ne.symm hs)]; exact H.2.2 s hs⟩
theorem RowIs.self {eT : TypeId} {m : Hp} {q j : Nat} {rows : List (List AV)} {row : List AV} (hg : m.get q = some (.cells eT rows.flatten)) (hr : rows[j]? = some row) : RowIs eT m q rows j row m := ⟨rfl, by rw [q5A hr]; exact hg, fun _ _ => rfl⟩
set_option maxHeartbeats 4000000 in
theorem Turned_pure (hP : POk Tryz.prog F gl K) (hX : ∀ f a, K.ext f a = none) (l : Sl LBlock) (t : Sl Int) (hlen : l.list.length < 1000000) (hb : ∀ x ∈ l.list, x.ins.list.length < 1000000 ∧ ∀ y ∈ x.ins.list, y.args.list.length < 1000000 ∧ y.frm.list.length < 1000000) (hr : ∀ b ∈ l.list, RegsIn t.list.length b) :
    q0y Tryz.prog F q1i [l.av LBlock.cells, t.av cI] ((Sl.of (l.list.map (q4E t.list))).av LBlock.cells) := by
  refine CallsT.pure (O := fun u g => frzV 4 g u = some ((Sl.of (l.list.map (q4E t.list))).av LBlock.cells)) (k := 4) (by simp) ?_ (fun u g e => e)
  refine CallsT.body hP q0e q9T rfl rfl ?_
  repeat' first | refine TW.seq ?_ | (refine TW.regG hP (by simp <;> rfl) ?_; dsimp only [goK])
  refine TO.ccall hP q7D (TwinBlocks_mem hP l hlen hb _) (by simp) rfl rfl rfl rfl (fun v g ⟨hw0, S0, hS0, hown0⟩ => ?_)
  refine TO.runsG hP (by simp <;> rfl) ?_
  try dsimp only [goK]
  repeat' first | refine TW.seq ?_ | refine TW.block ?_ | (refine TW.regG hP (by simp <;> rfl) ?_; dsimp only [goK])
  refine TW.loopL (fun i : Nat => [(0, v), (1, t.av cI), (4, .nilsl), (5, .int .i64 i)]) (fun i g => i ≤ l.list.length ∧ ∃ S, (∀ s, S s → s < g.nx) ∧ BlksS v ((Sl.of (l.list.map q1H)).mf (q4E t.list) i) g S) (fun i => l.list.length - i) (0) ?_ ?_ ?_
  focus (repeat' first | exact q0c | refine q0b (by simp) ?_)
  · exact ⟨Nat.zero_le _, S0, fun s hs => (hS0 s hs).2, by rw [mf_zero]; exact hown0⟩
  rintro i g ⟨hi, S, hS, hown⟩
  obtain ⟨hl1, hl2, hl3, hl4⟩ := hown.len
  rw [mf_len, Sl.of_list, List.length_map] at hl1
  have hlv := fun h => q3F (C := Ctx.of Tryz.prog gl K) (t := q1D) (h := h) hl1 hl2
  dsimp only [q1D] at hlv
  repeat' first | refine TW.seq ?_ | (refine TW.regG hP (by simp [hlv] <;> rfl) ?_; dsimp only [goK]) | simp only [q0a]
  refine TW.cond hP rfl (fun hc => TW.skip ?_) (fun hc => TW.exit ?_)
  · simp at hc
    have hci := hc
    obtain ⟨x, hx⟩ := q0g hc
    have hgx : ((Sl.of (l.list.map q1H)).mf (q4E t.list) i).list[i]? = some (q1H x) := by rw [mf_get, Sl.of_list, List.getElem?_map, hx]; rfl
    obtain ⟨r, rows, row, Si, hv, hrS, hgr, hrows, hri, hrl, hSi, ⟨u, rfl, hin⟩, wand⟩ := hown.at BlkS.locl hgx
    rw [mf_len, Sl.of_list, List.length_map] at hv
    subst hv
    have hR := hr x (List.mem_of_getElem? hx)
    obtain ⟨hx1, hx2⟩ := hb x (List.mem_of_getElem? hx)
    have hrn := hS r hrS
    have hinl : (q1H x).ins.list = x.ins.list.map q8t := Sl.of_list _
    obtain ⟨hu1, hu2, hu3, hu4⟩ := hin.len
    rw [hinl, List.length_map] at hu1
    have hlu := fun h => q3F (C := Ctx.of Tryz.prog gl K) (t := q3V) (h := h) hu1 hu2
    dsimp only [q3V] at hlu
    dsimp only [q0a]
    repeat' first | refine TW.seq ?_ | refine TW.block ?_ | (refine TW.regG hP (by simp <;> rfl) ?_; dsimp only [goK])
    refine TW.loopL (fun j : Nat => [(0, .sl r 0 l.list.length l.list.length 5 false), (1, t.av cI), (4, .nilsl), (5, .int .i64 i), (6, .int .i64 j)]) (fun j m => j ≤ x.ins.list.length ∧ g.nx ≤ m.nx ∧ (∀ s, ¬ Si s → s < g.nx → m.get s = g.get s) ∧ ∃ T, (∀ s, T s → Si s ∨ (g.nx ≤ s ∧ s < m.nx)) ∧ ArrS InsS 7 q0M false u ((q1H x).ins.mf (q7H t.list) j) m T) (fun j => x.ins.list.length - j) (0) ?_ ?_ ?_
    focus (repeat' first | exact q0c | refine q0b (by simp) ?_)
    · exact ⟨Nat.zero_le _, Nat.le_refl _, fun _ _ _ => rfl, Si, fun s hs => .inl hs, by rw [mf_zero]; exact hin⟩
    clear hin
    rintro j m ⟨hj, hnm, hfr, T, hT, hin⟩
    have hmr : m.get r = _ := (hfr r (fun hs => (hSi r hs).2 rfl) hrn).trans hgr
    have hum := fun t => q2i (C := Ctx.of Tryz.prog gl K) (t := t) hmr hrows hri
    repeat' first | refine TW.seq ?_ | (refine TW.regG hP (by simp [hum, q0L, q1h, hlu, hc] <;> rfl) ?_; dsimp only [goK]) | simp only [q0a]
    refine TW.cond hP rfl (fun hc => TW.skip ?_) (fun hc => TW.exit ?_)
    · simp at hc
      obtain ⟨y, hy⟩ := q0g hc
      have hym := List.mem_of_getElem? hy
      have hgy : (((q1H x).ins).mf (q7H t.list) j).list[j]? = some (q8t y) := by rw [mf_get, hinl, List.getElem?_map, hy]; rfl
      obtain ⟨q, rows2, row2, Sj, hu', hqT, hgq, hrows2, hrj, hrl2, hSj, ⟨va, vf, rfl, ha, hf⟩, wand2⟩ := hin.at InsS.locl hgy
      rw [mf_len, hinl, List.length_map] at hu'
      subst hu'
      obtain ⟨hy1, hy2⟩ := hx2 y hym
      have hTm : ∀ s, T s → s < m.nx := fun s hs => by
        rcases hT s hs with h | h
        · have := hS s (hSi s h).1; omega
        · omega
      have hqn := hTm q hqT
      dsimp only [q8t] at hrj ha hf
      dsimp only [q0a]
      refine TW.seq ?_
      refine TW.block ?_
      refine TW.seq (TW.regG hP (by simp [hum, q0L, q1h, hc, hci] <;> rfl) ?_)
      dsimp only [goK, q0a, q0f, q0d]
      refine TW.gen (RowIs q0M m q rows2 j _) (.self hgq hrj) fun m0 h0r => ?_
      refine TW.join (fun _ : Unit => [(0, .sl r 0 l.list.length l.list.length 5 false), (1, t.av cI), (4, .nilsl), (5, .int .i64 i), (6, .int .i64 j), (7, .ptr q (j * 7))]) (fun _ m1 => RowIs q0M m q rows2 j [.int .u8 y.op, .int .i64 y.type, .int .i64 (if q2Y y.op = true then tn t.list y.a else y.a), .int .i64 y.b, .int .i64 y.n, va, vf] m1) ?_ ?_
      · have hL := fun t => q2i (C := Ctx.of Tryz.prog gl K) (t := t) h0r.2.1 (q2u hrows2 rfl) (q3i hrj)
        have hL2 := fun t o => q2n (C := Ctx.of Tryz.prog gl K) (t := t) (o := o) h0r.2.1 (q2u hrows2 rfl) (q3i hrj)
        cases hA : q2Y y.op with
        | false =>
          repeat' first | refine TW.seq ?_ | refine TW.skip ?_ | refine TW.condF hP rfl ?_ | (refine TW.regG hP (by simp [hL, q0L, q1h] <;> rfl) ?_; dsimp only [goK]) | (refine TO.scall hP q2B (q7w hP y.op) ?_ rfl rfl rfl rfl ?_; (focus (simp; done)); refine TO.runsG hP (by simp [hA] <;> rfl) ?_; dsimp only [goK]) | simp only [↓reduceIte, reduceCtorEq]
          exact ⟨(), rfl, by repeat' first | exact q0c | refine q0b (by simp) ?_ , by simpa [hA] using h0r⟩
        | true =>
          obtain ⟨b1, b2⟩ := hR.ra y hym hA
          obtain ⟨n, hn⟩ := Int.eq_ofNat_of_zero_le b1
          obtain ⟨z, hz⟩ := q0g (show n < t.list.length by omega)
          have htv := q0z (e := cI) (show 0 < t.list.length by omega)
          have hz2 : tn t.list y.a = z := by simp [tn, hn, hz]
          have hSt := q6p (C := Ctx.of Tryz.prog gl K) (v := .int .i64 z) (o := 2) h0r.2.1 (q2u hrows2 rfl) (q3i hrj) rfl rfl (by omega)
          dsimp only [q0M] at hSt
          repeat' first | refine TW.seq ?_ | refine TW.condT hP rfl ?_ | (refine TW.regG hP (by simp [hL, hL2, q0L, q1h, hSt, -storeAt, sz1, htv, hz, hn] <;> rfl) ?_; dsimp only [goK]) | (refine TO.scall hP q2B (q7w hP y.op) ?_ rfl rfl rfl rfl ?_; (focus (simp; done)); refine TO.runsG hP (by simp [hA, -storeAt] <;> rfl) ?_; dsimp only [goK]) | simp only [↓reduceIte]
          refine ⟨(), rfl, ?_, by have := h0r.put (row' := [.int .u8 y.op, .int .i64 y.type, .int .i64 z, .int .i64 y.b, .int .i64 y.n, va, vf]); simpa [hA, hz2] using this⟩
          repeat' first | exact q0c | refine q0b (by simp [htv]) ?_
      clear h0r m0
      rintro - m0 h0r
      refine TW.join (fun _ : Unit => [(0, .sl r 0 l.list.length l.list.length 5 false), (1, t.av cI), (4, .nilsl), (5, .int .i64 i), (6, .int .i64 j), (7, .ptr q (j * 7))]) (fun _ m1 => RowIs q0M m q rows2 j [.int .u8 y.op, .int .i64 y.type, .int .i64 (q7H t.list y).a, .int .i64 (q7H t.list y).b, .int .i64 y.n, va, vf] m1) ?_ ?_
      · have hL := fun t => q2i (C := Ctx.of Tryz.prog gl K) (t := t) h0r.2.1 (q2u hrows2 rfl) (q3i hrj)
        have hL2 := fun t o => q2n (C := Ctx.of Tryz.prog gl K) (t := t) (o := o) h0r.2.1 (q2u hrows2 rfl) (q3i hrj)
        have e1 := uses6_pure hP ⟨y.op, 0, 0, 0, 0, .nil, .nil⟩ (by simp [Sl.list])
        rw [uses_op] at e1
        dsimp only [LIns.cells, Sl.av] at e1
        cases h2 : two6 y.op with
        | false =>
          have h3 : AV.isl [[.int .i64 0]] = slOf [0] := rfl
          have h4 : AV.nilsl = slOf [] := rfl
          cases hA : q2Y y.op with
          | false =>
            rw [hA, h2] at e1
            simp [slOf] at e1
            repeat' first | refine TW.seq ?_ | refine TW.skip ?_ | refine TW.condF hP rfl ?_ | (refine TW.regG hP (by simp [hL, q0L, q1h] <;> rfl) ?_; dsimp only [goK]) | (refine TO.scall hP q2A (e1) ?_ rfl rfl rfl rfl ?_; (focus (simp; done)); refine TO.runsG hP (by simp <;> rfl) ?_; dsimp only [goK])
            exact ⟨(), rfl, by repeat' first | exact q0c | refine q0b (by simp) ?_ , by simpa [q7H, hA, h2] using h0r⟩
          | true =>
            rw [hA, h2] at e1
            simp [slOf] at e1
            repeat' first | refine TW.seq ?_ | refine TW.skip ?_ | refine TW.condF hP rfl ?_ | (refine TW.regG hP (by simp [hL, q0L, q1h] <;> rfl) ?_; dsimp only [goK]) | (refine TO.scall hP q2A (e1) ?_ rfl rfl rfl rfl ?_; (focus (simp; done)); refine TO.runsG hP (by simp <;> rfl) ?_; dsimp only [goK])
            exact ⟨(), rfl, by repeat' first | exact q0c | refine q0b (by simp) ?_ , by simpa [q7H, hA, h2] using h0r⟩
        | true =>
          have hA := two_hasA h2
          rw [hA, h2] at e1
          simp [slOf] at e1
          obtain ⟨b1, b2⟩ := hR.rb y hym h2
          obtain ⟨n, hn⟩ := Int.eq_ofNat_of_zero_le b1
          obtain ⟨z, hz⟩ := q0g (show n < t.list.length by omega)
          have htv := q0z (e := cI) (show 0 < t.list.length by omega)
          have hz2 : tn t.list y.b = z := by simp [tn, hn, hz]
          have hSt := q6p (C := Ctx.of Tryz.prog gl K) (v := .int .i64 z) (o := 3) h0r.2.1 (q2u hrows2 rfl) (q3i hrj) rfl rfl (by omega)
          dsimp only [q0M] at hSt
          repeat' first | refine TW.seq ?_ | refine TW.condT hP rfl ?_ | (refine TW.regG hP (by simp [hL, hL2, q0L, q1h, hSt, -storeAt, sz1, htv, hz, hn] <;> rfl) ?_; dsimp only [goK]) | (refine TO.scall hP q2A (e1) ?_ rfl rfl rfl rfl ?_; (focus (simp; done)); refine TO.runsG hP (by simp [-storeAt] <;> rfl) ?_; dsimp only [goK])
          refine ⟨(), rfl, ?_, by have := h0r.put (row' := [.int .u8 y.op, .int .i64 y.type, .int .i64 (tn t.list y.a), .int .i64 z, .int .i64 y.n, va, vf]); simpa [q7H, hA, h2, hz2] using this⟩
          repeat' first | exact q0c | refine q0b (by simp [htv]) ?_
      clear h0r m0
      rintro - m0 h0r
      have hL2 := fun t o => q2n (C := Ctx.of Tryz.prog gl K) (t := t) (o := o) h0r.2.1 (q2u hrows2 rfl) (q3i hrj)
      have agS : Agr Sj m m0 := fun s hs => h0r.2.2 s (hSj s hs).2
      have ha0 := IntS.locl _ _ _ _ ha (fun _ h => h) agS
      have hf0 := IntS.locl _ _ _ _ hf (fun _ h => h) agS
      repeat' first | (refine TW.regG hP (by simp [hL2, q0L, q1h] <;> rfl) ?_; dsimp only [goK])
      refine TO.ccall hP I_fescueref27_to (to27_mem hP _ va y.args.list (ha0.rdI fun s hs => by have := hTm s (hSj s hs).1; have := h0r.1; omega) t hy1 (hR.rg y hym)) (by simp) rfl rfl rfl rfl (fun u2 m4 ⟨hw4, S4, hS4, hi4⟩ => ?_)
      have hm4 : m4.get q = _ := (hw4.get q (by have := h0r.1; omega)).trans h0r.2.1
      have hSt := q6p (C := Ctx.of Tryz.prog gl K) (v := u2) (o := 5) hm4 (q2u hrows2 rfl) (q3i hrj) hi4.cell.2 hi4.cell.1 (by omega)
      dsimp only [q0M] at hSt
      refine TO.runsG hP (by simp [hSt, -storeAt, sz1] <;> rfl) ?_
      try dsimp only [goK]
      repeat' first | (refine TW.regG hP (by simp <;> rfl) ?_; dsimp only [goK]) | simp only [q0d]
      have hnx4 := hw4.nx
      have hnx0 := h0r.1
      have hgy0 : (q1H x).ins.list[j]? = some (q8t y) := by rw [hinl, List.getElem?_map, hy]; rfl
      have hS4' : ∀ s, S4 s → m.nx ≤ s ∧ s < m4.nx := fun s hs => by have := hS4 s hs; omega
      refine ⟨j + 1, by omega, trivial, ?_, by omega, ?_, ?_, (fun s => T s ∨ S4 s), ?_, ?_⟩
      · repeat' first | exact q0c | refine q0b (by simp [w64s (show j < 9000000000000000000 by omega)]) ?_
      · rw [nx_put]; omega
      · intro s h1 h2
        have hsq : ¬ q = s := by
          rintro rfl
          rcases hT _ hqT with h | h
          · exact h1 h
          · omega
        rw [get_put, if_neg hsq, hw4.get s (by omega), h0r.2.2 s (Ne.symm hsq)]
        exact hfr s h1 h2
      · rintro s (hs | hs)
        · rw [nx_put]
          rcases hT s hs with h | h
          · exact .inl h
          · exact .inr (by omega)
        · rw [nx_put]
          have := hS4' s hs
          exact .inr (by omega)
      · rw [← mf_set hgy0]
        have dis : ∀ s, (Sj s ∨ S4 s) → s ≠ q := by
          rintro s (hs | hs)
          · exact (hSj s hs).2
          · have := hS4' s hs; omega
        have ag4 : Agr Sj m0 m4 := fun s hs => hw4.get s (by have := hTm s (hSj s hs).1; omega)
        refine wand2 _ (fun s => Sj s ∨ S4 s) (q7H t.list (q8t y)) [.int .u8 y.op, .int .i64 y.type, .int .i64 (q7H t.list y).a, .int .i64 (q7H t.list y).b, .int .i64 y.n, u2, vf] rfl (by rw [get_put, if_pos rfl]) ?_ ?_ ?_ _ (fun s hs => .inl hs) ?_
        · intro s h1 h2 h3
          have := hTm s h1
          rw [get_put, if_neg (Ne.symm h3), hw4.get s (by omega), h0r.2.2 s h3]
        · rintro s (hs | hs)
          · exact .inl hs
          · exact .inr fun h => by have := hTm s h; have := hS4' s hs; omega
        · refine ⟨u2, vf, rfl, IntS.locl _ _ _ _ hi4 (fun s hs => .inr hs) fun s hs => ?_, IntS.locl _ _ _ _ hf0 (fun s hs => .inl hs) fun s hs => ?_⟩
          · rw [get_put, if_neg (Ne.symm (dis s (.inr hs)))]
          · rw [get_put, if_neg (Ne.symm (dis s (.inl hs)))]; exact ag4 s hs
        · rintro s (hs | hs)
          · exact .inl (hSj s hs).1
          · exact .inr hs
    · simp at hc
      have hin' : ArrS InsS 7 q0M false u (q4E t.list (q1H x)).ins m T := by
        have e : (q1H x).ins.mf (q7H t.list) j = (q4E t.list (q1H x)).ins := by
          show (Sl.of (x.ins.list.map q8t)).mf (q7H t.list) j = Sl.of ((q1H x).ins.list.map (q7H t.list))
          rw [mf_all (by simpa using hc), hinl]
        rw [← e]; exact hin
      have hTS : ∀ s, T s → Si s ∨ ¬ S s := fun s hs => (hT s hs).imp id fun h h2 => by have := hS s h2; omega
      have hTn : ∀ s, T s → s < m.nx := fun s hs => by
        rcases hT s hs with h | h
        · have := hS s (hSi s h).1; omega
        · omega
      have hTr : ∀ s, T s → s ≠ r := fun s hs => by
        rcases hT s hs with h | h
        · exact (hSi s h).2
        · omega
      have hum2 := fun t o => q2n (C := Ctx.of Tryz.prog gl K) (t := t) (o := o) hmr hrows hri
      have e1 := ends6_pure hP x.ed
      have hed : (q1H x).ed = x.ed := rfl
      rw [hed] at hri
      simp only [hed] at hum hum2
      have fin : ∀ m6 : Hp, m6.nx = m.nx → m6.get r = some (.cells q0s (rows.set i (u :: (turnE t.list x.ed).cells)).flatten) → (∀ s, s ≠ r → m6.get s = m.get s) → ∃ S, (∀ s, S s → s < m6.nx) ∧ BlksS (.sl r 0 l.list.length l.list.length 5 false) ((Sl.of (l.list.map q1H)).mf (q4E t.list) (i + 1)) m6 S := fun m6 h1 h2 h3 => by
        refine ⟨fun s => S s ∨ T s, ?_, ?_⟩
        · rintro s (hs | hs)
          · have := hS s hs; omega
          · have := hTn s hs; omega
        · rw [← mf_set (s := Sl.of (l.list.map q1H)) (a := q1H x) (by rw [Sl.of_list, List.getElem?_map, hx]; rfl)]
          refine wand m6 T (q4E t.list (q1H x)) _ rfl h2 (fun s g1 g2 g3 => by rw [h3 s g3]; exact hfr s g2 (hS s g1)) hTS ⟨u, rfl, ArrS.locl InsS.locl _ _ _ _ hin' (fun _ h => h) fun s hs => h3 s (hTr s hs)⟩ _ (fun s hs => .inl hs) (fun s hs => .inr hs)
      dsimp only [q0a]
      by_cases hk : x.ed.kind = 2 ∨ x.ed.kind = 3
      · obtain ⟨b1, b2⟩ := hR.re hk
        obtain ⟨n, hn⟩ := Int.eq_ofNat_of_zero_le b1
        obtain ⟨z, hz⟩ := q0g (show n < t.list.length by omega)
        have htv := q0z (e := cI) (show 0 < t.list.length by omega)
        have hz2 : tn t.list x.ed.a = z := by simp [tn, hn, hz]
        have hSt := q6p (C := Ctx.of Tryz.prog gl K) (v := .int .i64 z) (o := 2) hmr hrows hri rfl rfl (by omega)
        dsimp only [q0s] at hSt
        simp only [q2g, if_pos hk, slOf, List.map_cons, List.map_nil, LEnd.cells, cI, hn] at e1
        repeat' first | refine TW.seq ?_ | refine TW.condT hP rfl ?_ | (refine TW.regG hP (by simp [hum2, q0L, q1h, hSt, -storeAt, sz1, htv, hz, hn, hci, Nat.add_assoc] <;> rfl) ?_; dsimp only [goK]) | (refine TO.scall hP q5g (e1) ?_ rfl rfl rfl rfl ?_; (focus (simp; done)); refine TO.runsG hP (by simp [-storeAt] <;> rfl) ?_; dsimp only [goK]) | simp only [q0d]
        refine ⟨i + 1, by omega, trivial, ?_, by omega, fin _ (by rw [nx_put]) ?_ ?_⟩
        · repeat' first | exact q0c | refine q0b (by simp [htv, w64s (show i < 9000000000000000000 by omega)]) ?_
        · rw [get_put, if_pos rfl]
          simp [turnE, hk, hz2]
        · intro s hs
          rw [get_put, if_neg (Ne.symm hs)]
      · simp only [q2g, if_neg hk, slOf, LEnd.cells] at e1
        repeat' first | refine TW.seq ?_ | refine TW.skip ?_ | refine TW.condF hP rfl ?_ | (refine TW.regG hP (by simp [hum2, q0L, q1h, hci] <;> rfl) ?_; dsimp only [goK]) | (refine TO.scall hP q5g (e1) ?_ rfl rfl rfl rfl ?_; (focus (simp; done)); refine TO.runsG hP (by simp <;> rfl) ?_; dsimp only [goK]) | simp only [q0d]
        refine ⟨i + 1, by omega, trivial, ?_, by omega, fin _ rfl ?_ fun _ _ => rfl⟩
        · repeat' first | exact q0c | refine q0b (by simp [w64s (show i < 9000000000000000000 by omega)]) ?_
        · have e : turnE t.list x.ed = x.ed := by unfold turnE; rw [if_neg hk]
          rw [e, q5A hri]; exact hmr
  · simp at hc
    dsimp only [q0a]
    repeat' first | refine TW.seq ?_ | (refine TW.regG hP (by simp <;> rfl) ?_; dsimp only [goK]) | simp only [q0a] | (refine TW.ret ⟨.inr rfl, _, _, rfl, rfl, ?_⟩; dsimp only [q0h])
    rw [mf_all (by simpa using hc), List.map_map] at hown
    have := (ArrS.rd (ρ := BlkS) (fun _ _ _ _ => BlkS.rd) hown).now
    rw [this]
    rw [show (q4E t.list ∘ q1H) = q4E t.list from funext fun b => turnB_twin t.list b]
end Go.Ax
noncomputable section
namespace Go.Ax
variable {P : Program} {F : Nat → Option Obj} {n : Nat} {rd : Option Nat} {l l' : Kn} {h : Hp} {ds : List ADef} {Q : PQ}
def Tr.filt {α : Type} : Tr α → (Nat → Bool) → Tr α
 | .e, _ => .e
 | .n l v r, p => .n (l.filt fun i => p (2 * i + 1)) (bif p 0 then v else none) (r.filt fun i => p (2 * i + 2))
theorem Tr.filt_get {α : Type} : ∀ (t : Tr α) (p : Nat → Bool) (i : Nat), (t.filt p).get i = bif p i then t.get i else none
  | .e, p, i => by
    show (Tr.e : Tr α).get i = _
    rw [Tr.get_e]
    cases p i <;> rfl
  | .n l v r, p, i => by
    unfold Tr.filt
    rw [Tr.get_n, Tr.get_n]
    by_cases h0 : i = 0
    · subst h0; rw [if_pos rfl, if_pos rfl]
    · rw [if_neg h0, if_neg h0]
      split
      · rw [Tr.filt_get l]
        congr 1
        congr 1
        omega
      · rw [Tr.filt_get r]
        congr 1
        congr 1
        omega
def Hp.wo (h : Hp) (S : Nat → Prop) : Hp := { nx := h.nx, m := h.m.filt fun r => !(@decide (S r) (Classical.propDecidable _)), lo := 0 }
def Hp.only (h : Hp) (S : Nat → Prop) : Hp := { nx := h.nx, m := h.m.filt fun r => @decide (S r) (Classical.propDecidable _), lo := 0 }
theorem wo_nx {S : Nat → Prop} : (h.wo S).nx = h.nx := rfl
theorem q8p {S : Nat → Prop} {r : Nat} (hr : ¬ S r) : (h.wo S).get r = h.get r := by
 show (h.m.filt _).get r = h.m.get r
 rw [Tr.filt_get, @decide_eq_false _ (Classical.propDecidable _) hr]; rfl
theorem wo_none {S : Nat → Prop} {r : Nat} (hr : S r) : (h.wo S).get r = none := by
 show (h.m.filt _).get r = none
 rw [Tr.filt_get, @decide_eq_true _ (Classical.propDecidable _) hr]; rfl
theorem only_get {S : Nat → Prop} {r : Nat} (hr : S r) : (h.only S).get r = h.get r := by
 show (h.m.filt _).get r = h.m.get r
 rw [Tr.filt_get, @decide_eq_true _ (Classical.propDecidable _) hr]; rfl
theorem only_none {S : Nat → Prop} {r : Nat} (hr : ¬ S r) : (h.only S).get r = none := by
 show (h.m.filt _).get r = none
 rw [Tr.filt_get, @decide_eq_false _ (Classical.propDecidable _) hr]; rfl
theorem wo_le (S : Nat → Prop) : HpLe h (h.wo S) := by
 refine ⟨Nat.le_refl _, Nat.zero_le _, fun r _ h2 => absurd h2 (Nat.not_lt_zero _), fun hw r hr => ?_⟩
 by_cases hS : S r
 ·exact wo_none hS
 ·rw [q8p hS]; exact hw r hr
theorem Step.freeze {m : Loc} {w : World} (S : Nat → Prop) (hR : HRel P F m h w) : ∃ m', Step P F m h (h.wo S) w w m' ∧ ∀ k x v y, VRel P F m x v → frzV k (h.only S) x = some y → VRel P F m' y v := by
  have hsub : ∀ r o, (h.only S).get r = some o → S r ∧ h.get r = some o := fun r o hg => by
    by_cases hS : S r
    · rw [only_get hS] at hg; exact ⟨hS, hg⟩
    · rw [only_none hS] at hg; cases hg
  have hwo : ∀ r o, (h.wo S).get r = some o → ¬ S r ∧ h.get r = some o := fun r o hg => by
    by_cases hS : S r
    · rw [wo_none hS] at hg; cases hg
    · rw [q8p hS] at hg; exact ⟨hS, hg⟩
  have hRr : HRel P F m (h.only S) w :=
    ⟨fun r o b z hg hm => hR.obj r o b z (hsub r o hg).2 hm, fun r s o q b y z hg hl hg' hl' hm hm' => hR.inj r s o q b y z (hsub r o hg).2 hl (hsub s q hg').2 hl' hm hm',
     fun r o b z hg hl hm => hR.out r o b z (hsub r o hg).2 hl hm, hR.frz, fun r hr => by
      cases hg : (h.only S).get r with
      | none => rfl
      | some o => have h1 := (hsub r o hg).2; rw [hR.wf r hr] at h1; cases h1⟩
  let K : Nat → Prop := fun b => ∃ r o z, (h.only S).get r = some o ∧ o.live = true ∧ m r = some (b, z)
  have dK : ∀ b, Decidable (K b) := fun b => Classical.propDecidable _
  let fz2 : Nat → Option Obj := fun b => @ite _ (K b) (dK b) w.heap[b]? (m.fz b)
  have f1 : ∀ b o, m.fz b = some o → fz2 b = some o := fun b o hb => by
    show @ite _ (K b) (dK b) w.heap[b]? (m.fz b) = some o
    split
    · exact hR.frz b o (.inr hb)
    · exact hb
  have f2 : ∀ b o, fz2 b = some o → w.heap[b]? = some o := fun b o hb => by
    have hb : @ite _ (K b) (dK b) w.heap[b]? (m.fz b) = some o := hb
    split at hb
    · exact hb
    · exact hR.frz b o (.inr hb)
  have f3 : ∀ b o, fz2 b = some o → m.fz b = some o ∨ K b := fun b o hb => by
    have hb : @ite _ (K b) (dK b) w.heap[b]? (m.fz b) = some o := hb
    split at hb
    · rename_i hk; exact .inr hk
    · exact .inl hb
  have hlm : Loc.le m ⟨m, fz2⟩ := ⟨fun _ _ h => h, f1⟩
  refine ⟨⟨m, fz2⟩, ⟨hlm, fun r c h1 h2 => ?_, ⟨fun r o b z hg hm => ?_, fun r s o q b y z hg hl hg' hl' hm hm' => ?_, fun r o b z hg hl hm => ?_, fun b o hb => ?_, fun r hr => ?_⟩, SameOut.refl w, Nat.le_refl _, fun b hb _ => rfl, Nat.le_refl _, fun r o' c hg hl _ => ⟨o', (hwo r o' hg).2, hl⟩, fun r b z h1 h2 _ => ?_, fun b o hb => ?_⟩, fun k x v y hv hy => ?_⟩
  · have h1 : m r = some c := h1
    rw [h2] at h1; cases h1
  · exact (hR.obj r o b z (hwo r o hg).2 hm).mono hlm
  · exact hR.inj r s o q b y z (hwo r o hg).2 hl (hwo s q hg').2 hl' hm hm'
  · obtain ⟨hn, h0⟩ := hwo r o hg
    obtain ⟨h1, h2⟩ := hR.out r o b z h0 hl hm
    refine ⟨h1, ?_⟩
    show fz2 b = none
    cases hf : fz2 b with
    | none => rfl
    | some x =>
      rcases f3 b x hf with h4 | ⟨s, q, y, hgs, hls, hms⟩
      · rw [h2] at h4; cases h4
      · obtain ⟨g1, g2⟩ := hsub s q hgs
        have h5 := hR.inj r s o _ b z y h0 hl g2 hls hm hms
        subst h5
        exact absurd g1 hn
  · rcases hb with hb | hb
    · exact hR.frz b o (.inl hb)
    · exact f2 b o hb
  · exact (wo_le S).wf (fun r hr => hR.wf r hr) r hr
  · have h1 : m r = some (b, z) := h1
    rw [h2] at h1; cases h1
  · rcases f3 b o hb with h1 | ⟨s, q, y, hgs, hls, hms⟩
    · exact .inl h1
    · exact .inr (.inr ⟨s, _, y, (hsub s q hgs).2, hls, hms⟩)
  · refine VRel.mono (m := ⟨fun _ => none, fz2⟩) (m' := ⟨m, fz2⟩) ⟨fun r c h => (by cases h), fun _ _ h => h⟩ (z1m (fz := fz2) hRr f1 (fun r o b z ob hg hl hm hb => ?_) k x v y hv hy)
    show @ite _ (K b) (dK b) w.heap[b]? (m.fz b) = some ob
    rw [if_pos ⟨r, o, z, hg, hl, hm⟩]; exact hb
def ovl : Kn → Tr AV → Tr AV
 | [], tm => tm
 | (i, v) :: l, tm => (ovl l tm).set i v
theorem ovl_get : ∀ (l : Kn) (tm : Tr AV) (t : Nat), tget (ovl l tm) t = (match kn l t with | some v => v | none => tget tm t)
  | [], _, _ => rfl
  | (i, v) :: l, tm, t => by
    show tget ((ovl l tm).set i v) t = _
    rw [q4K]
    unfold kn
    by_cases e : i = t
    · subst e; rw [if_pos rfl, Nat.beq_refl]; rfl
    · rw [if_neg e, show Nat.beq i t = false from (by cases hb : Nat.beq i t with | false => rfl | true => exact absurd (Nat.eq_of_beq_eq_true hb) e), cond_false]
      exact ovl_get l tm t
theorem TW.freeze {c : Code} (S : Nat → Prop) (hl : ∀ t v', kn l' t = some v' → kn l t = some v' ∨ ∃ v k, kn l t = some v ∧ RdF S h k v v') (ht : TW P F c n rd l' (h.wo S) ds Q) : TW P F c n rd l h ds Q := fun s hs m a w fe k hr ha hf hF => by
  obtain ⟨m', hst, hv⟩ := Step.freeze S hr
  have hs' : Atk { s with tm := ovl l' s.tm, h := h.wo S } n rd l' (h.wo S) ds := ⟨hs.n, rfl, hs.ds, hs.rd, fun t v e => by
    show tget (ovl l' s.tm) t = v
    rw [ovl_get, e]⟩
  have htm : TRel P F m' (ovl l' s.tm) s.n a.tmps := by
    refine ⟨ha.tm.size, fun t htn => ?_, fun t htn => ?_⟩
    · rw [ovl_get]
      cases e : kn l' t with
      | none => exact (ha.tm.at' t htn).mono hst.le
      | some v' =>
        rcases hl t v' e with h1 | ⟨v, k, h1, h2⟩
        · have := ha.tm.at' t htn
          rw [hs.tm t v' h1] at this
          exact this.mono hst.le
        · have := ha.tm.at' t htn
          rw [hs.tm t v h1] at this
          exact hv _ _ _ _ this (h2 _ fun r hr => only_get hr)
    · rw [ovl_get]
      cases e : kn l' t with
      | none => exact ha.tm.out t htn
      | some v' =>
        have h0 := ha.tm.out t htn
        rcases hl t v' e with h1 | ⟨v, k, h1, h2⟩
        · rw [hs.tm t v' h1] at h0; exact h0
        · rw [hs.tm t v h1] at h0
          subst h0
          have h3 := h2 h fun _ _ => rfl
          cases k with
          | zero => cases h3
          | succ k => unfold frzV at h3; cases h3; rfl
  exact wpIn_mono (ht _ hs' m' a w fe k hst.rel ⟨htm, ha.ds.mono hst.le⟩ (hf.mono hst.le) (hF.after hst)) fun x a' w' hp => hp.after hst (wo_le S)
end Go.Ax
set_option maxRecDepth 20000
noncomputable section
namespace Go.Ax
open Go.Proofs
attribute [local irreducible] TW TO CallsT q0y
variable {F : Nat → Option Obj} {gl : Nat → AV} {K : Knob} {S S' : Nat → Prop}
theorem Own.mono {es b b' : Nat} {eT : TypeId} {h : Hp} {v : AV} {rows : List (List AV)} (H : Own es eT b h v rows) (hb : b' ≤ b) : Own es eT b' h v rows := by
 rcases H with h1 | ⟨h1, r, h2, h3, h4, h5⟩
 ·exact .inl h1
 ·exact .inr ⟨h1, r, by omega, h3, h4, h5⟩
theorem OwnD.mono {k es b b' : Nat} {eT : TypeId} {h : Hp} {v : AV} {fz : List (List AV)} (H : OwnD k es eT b h v fz) (hb : b' ≤ b) : OwnD k es eT b' h v fz := by
 obtain ⟨S, rows, h1, h2, h3, h4, h5⟩ := H
 exact ⟨S, rows, h1.mono hb, h2, fun r hr => by have := h3 r hr; omega, h4, h5⟩
set_option maxHeartbeats 2000000 in
theorem Twin6_mem (hP : POk Tryz.prog F gl K) (hX : ∀ f a, K.ext f a = none) (p : LProg) (hs : SmallP p) (h0 : Hp) : CallsT Tryz.prog F h0 (fun u g => ∃ v, u = .agg [(Sl.of (p.types.list.map q5j)).av LType.cells, v] ∧ Wid h0 g ∧ OwnD 4 2 q0R h0.nx g v ((p.funcs.list.map q4y).map LFunc.cells)) q4X [.agg p.cells] := by
 refine CallsT.body hP q0e E_fescueref06_Twin rfl rfl ?_
 have e1 := Twin3_pure hP p.types (by have := hs.nt; omega) (fun x hx => by have := hs.parts x hx; omega)
 have hnf := hs.nf
 repeat' first | refine TW.seq ?_ | refine TW.block ?_ | (refine TW.regG hP (by simp <;> rfl) ?_; dsimp only [goK]) | (refine TO.scall hP I_fescueref03_Twin (e1) ?_ rfl rfl rfl rfl ?_; (focus (simp; done)); refine TO.runsG hP (by simp <;> rfl) ?_; dsimp only [goK])
 refine TW.loopL (fun q : Nat × AV => [(1, .ptr h0.nx 0), (2, .ptr (h0.nx + 1) 0), (3, .ptr (h0.nx + 2) 0), (4, .int .i64 q.1)]) (fun q g => q.1 ≤ p.funcs.list.length ∧ Wid h0 g ∧ h0.nx + 3 ≤ g.nx ∧ g.get h0.nx = some (.cells q0k p.cells) ∧ (∃ a b, g.get (h0.nx + 1) = some (.cells q0k [a, b])) ∧ g.get (h0.nx + 2) = some (.cells q0k [(Sl.of (p.types.list.map q5j)).av LType.cells, q.2]) ∧ OwnD 4 2 q0R (h0.nx + 3) g q.2 (((p.funcs.list.take q.1).map q4y).map LFunc.cells)) (fun q => p.funcs.list.length - q.1) ((0, .nilsl)) ?_ ?_ ?_
 focus (repeat' first | exact q0c | refine q0b (by simp) ?_)
 ·exact ⟨Nat.zero_le _, ((((Wid.refl h0).new _).new _).new _).put (by omega) _, by simp, by simp [get_put, show ¬ h0.nx + 1 + 1 = h0.nx by omega], ⟨.nilsl, .nilsl, by simp [get_put]⟩, by simp [get_put], .nil⟩
 rintro ⟨i, v⟩ g ⟨hi, hw0, hnx, hg0, ⟨za, zb, hg1⟩, hg2, hown⟩
 dsimp only [q0k, LProg.cells] at hi hg0 hg1 hg2 hown ⊢
 repeat' first | refine TW.seq ?_ | (refine TW.regG hP (by simp [hg0] <;> rfl) ?_; dsimp only [goK]) | simp only [q0a]
 refine TW.cond hP rfl (fun hc => TW.skip ?_) (fun hc => TW.exit ?_)
 ·simp at hc
  obtain ⟨x, hx⟩ := q0g hc
  have hav := q0z (e := LFunc.cells) (show 0 < p.funcs.list.length by omega)
  have hsf := (hs.funcs x (List.mem_of_getElem? hx)).blk
  have e2 := TwinBlocks_pure hP x.blocks hsf.1 hsf.2
  dsimp only [q0a]
  repeat' first | refine TW.seq ?_ | refine TW.block ?_
  have hpush := hown.push (t := q7O) (C := Ctx.of Tryz.prog gl (K.tell [(q0r, [x.blocks.av LBlock.cells], (Sl.of (x.blocks.list.map q1H)).av LBlock.cells)])) (g := g) (row := [.int .i64 x.sig, (Sl.of (x.blocks.list.map q1H)).av LBlock.cells]) (frow := (q4y x).cells) (slt_funcs (gl := gl) (K := K.tell _)) (.refl g) rfl (by simp) (by simp; omega) hnx (S' := fun _ => False) nofun (.cons q0N (.cons (fun _ _ => q6R q9x _) .nil))
  obtain ⟨v', h', q1, q2, q3, q4⟩ := hpush
  obtain ⟨h2, q5, q6⟩ := append_up q1
  have hg2' : h2.get (h0.nx + 2) = _ := (q6f q6 _).trans ((q3.get _ (by omega)).trans hg2)
  have hg0' : h2.get h0.nx = _ := (q6f q6 _).trans ((q3.get _ (by omega)).trans hg0)
  have hg1' : h2.get (h0.nx + 1) = _ := (q6f q6 _).trans ((q3.get _ (by omega)).trans hg1)
  have hn2 := nx_of_z q6
  obtain ⟨d1, d2⟩ := q2.cell
  dsimp only [q7O, q0R] at q5
  have hout : OwnD 4 2 q0R (h0.nx + 3) (h2.put (h0.nx + 2) (.cells 25 [(Sl.of (p.types.list.map q5j)).av LType.cells, v'])).z v' (((p.funcs.list.take (i + 1)).map q4y).map LFunc.cells) := by
   rw [q2x hx, List.map_append]
   exact (q2.agr (g := h2) (by omega) fun r _ _ => q6f q6 r).put (by omega) _
  rcases hown.cases with rfl | ⟨r, n, hr1, hr2, rfl⟩
  ·try refine TW.seq ?_
   refine TW.drawH hP [(q0r, [x.blocks.av LBlock.cells], (Sl.of (x.blocks.list.map q1H)).av LBlock.cells)] (fun e he => by rcases List.mem_cons.1 he with rfl | he; exact e2; cases he) [0, 1, 0, 4, 0, 28, 60, 124, 0, 256, 0, 1792, 3840, 7936, 16128, 32764, 65532, 131071, 262143, 524287] (by kernel_rfl) (by kernel_rfl) (by simp [hX, hg0, hg2, hx, hav, q5, hg2', d1, d2, (show ¬ g.nx ≤ h0.nx by omega), (show ¬ g.nx ≤ h0.nx + 2 by omega), q0r, q1R, q1S, oneD, fpAt, fpOf, q0v, ldOf, q0T, q0m, FP.clash, FP.hard, FP.soft, overlap, inR, q0A, q1T, Nat.testBit] <;> rfl) ?_
   repeat' (refine q1A (fun hb => ?_) (fun hb => ?_) <;> (try simp only [Bool.not_eq_eq_eq_not, Bool.not_true, Bool.not_false] at hb) <;> refine q4H (by simp [hb, hX, hg0, hg2, hx, hav, q5, hg2', d1, d2, (show ¬ g.nx ≤ h0.nx by omega), (show ¬ g.nx ≤ h0.nx + 2 by omega), q0r, q1R, q1S, oneD, fpAt, fpOf, q0v, ldOf, q0T, q0m, FP.clash, FP.hard, FP.soft, overlap, inR, q0A, q1T, Nat.testBit, show ¬ g.nx + 1 ≤ g.nx by omega, show ¬ g.nx + 2 ≤ g.nx by omega, show ¬ g.nx + 2 ≤ g.nx + 1 by omega, show ¬ g.nx + 3 ≤ g.nx by omega, show ¬ g.nx + 3 ≤ g.nx + 1 by omega, show ¬ g.nx + 3 ≤ g.nx + 2 by omega] <;> rfl) ?_)
   all_goals dsimp only [okD, q0a]
   repeat' first | (refine TW.regG hP (by simp <;> rfl) ?_; dsimp only [goK]) | simp only [q0d]
   refine ⟨(i + 1, v'), by dsimp only; omega, trivial, ?_, by dsimp only; omega, ?_, ?_, ?_, ⟨za, zb, ?_⟩, ?_, hout⟩
   ·repeat' first | exact q0c | refine q0b (by simp [w64s (show i < 9000000000000000000 by omega)]) ?_
   ·refine ⟨by show h0.nx ≤ h2.nx; omega, fun s hs => ?_⟩
    rw [q1F, get_put, if_neg (by omega), q6f q6, q3.get s (by omega), hw0.get s hs]
   ·show h0.nx + 3 ≤ h2.nx
    omega
   ·rw [q1F, get_put, if_neg (by omega)]; exact hg0'
   ·rw [q1F, get_put, if_neg (by omega)]; exact hg1'
   ·rw [q1F, get_put, if_pos rfl]
  ·try refine TW.seq ?_
   refine TW.drawH hP [(q0r, [x.blocks.av LBlock.cells], (Sl.of (x.blocks.list.map q1H)).av LBlock.cells)] (fun e he => by rcases List.mem_cons.1 he with rfl | he; exact e2; cases he) [0, 1, 0, 4, 0, 28, 60, 124, 0, 256, 0, 1792, 3840, 7936, 16128, 32764, 65532, 131071, 262143, 524287] (by kernel_rfl) (by kernel_rfl) (by simp [hX, hg0, hg2, hx, hav, q5, hg2', d1, d2, (show ¬ g.nx ≤ h0.nx by omega), (show ¬ g.nx ≤ h0.nx + 2 by omega), (show ¬ r = h0.nx by omega), (show ¬ r = h0.nx + 2 by omega), (show ¬ h0.nx + 2 = r by omega), q0r, q1R, q1S, oneD, fpAt, fpOf, q0v, ldOf, q0T, q0m, FP.clash, FP.hard, FP.soft, overlap, inR, q0A, q1T, Nat.testBit] <;> rfl) ?_
   repeat' (refine q1A (fun hb => ?_) (fun hb => ?_) <;> (try simp only [Bool.not_eq_eq_eq_not, Bool.not_true, Bool.not_false] at hb) <;> refine q4H (by simp [hb, hX, hg0, hg2, hx, hav, q5, hg2', d1, d2, (show ¬ g.nx ≤ h0.nx by omega), (show ¬ g.nx ≤ h0.nx + 2 by omega), (show ¬ r = h0.nx by omega), (show ¬ r = h0.nx + 2 by omega), (show ¬ h0.nx = r by omega), (show ¬ h0.nx + 2 = r by omega), q0r, q1R, q1S, oneD, fpAt, fpOf, q0v, ldOf, q0T, q0m, FP.clash, FP.hard, FP.soft, overlap, inR, q0A, q1T, Nat.testBit, show ¬ g.nx + 1 ≤ g.nx by omega, show ¬ g.nx + 2 ≤ g.nx by omega, show ¬ g.nx + 2 ≤ g.nx + 1 by omega, show ¬ g.nx + 3 ≤ g.nx by omega, show ¬ g.nx + 3 ≤ g.nx + 1 by omega, show ¬ g.nx + 3 ≤ g.nx + 2 by omega] <;> rfl) ?_)
   all_goals dsimp only [okD, q0a]
   repeat' first | (refine TW.regG hP (by simp <;> rfl) ?_; dsimp only [goK]) | simp only [q0d]
   refine ⟨(i + 1, v'), by dsimp only; omega, trivial, ?_, by dsimp only; omega, ?_, ?_, ?_, ⟨za, zb, ?_⟩, ?_, hout⟩
   ·repeat' first | exact q0c | refine q0b (by simp [w64s (show i < 9000000000000000000 by omega)]) ?_
   ·refine ⟨by show h0.nx ≤ h2.nx; omega, fun s hs => ?_⟩
    rw [q1F, get_put, if_neg (by omega), q6f q6, q3.get s (by omega), hw0.get s hs]
   ·show h0.nx + 3 ≤ h2.nx
    omega
   ·rw [q1F, get_put, if_neg (by omega)]; exact hg0'
   ·rw [q1F, get_put, if_neg (by omega)]; exact hg1'
   ·rw [q1F, get_put, if_pos rfl]
 ·simp at hc
  dsimp only [q0a]
  rw [List.take_of_length_le hc] at hown
  obtain ⟨d1, d2⟩ := hown.cell
  repeat' first | refine TW.seq ?_ | (refine TW.regG hP (by simp [hg2, hg1, d1] <;> rfl) ?_; dsimp only [goK]) | simp only [q0a]
  refine TW.ret ⟨.inr rfl, _, [.agg [(Sl.of (p.types.list.map q5j)).av LType.cells, v]], rfl, by simp [resK, get_put], ?_⟩
  exact ⟨v, rfl, hw0.put (by omega) _, (hown.put (by omega) _).mono (by omega)⟩
end Go.Ax
set_option maxRecDepth 20000
noncomputable section
namespace Go.Ax
open Go.Proofs
attribute [local irreducible] TW TO CallsT q0y
variable {F : Nat → Option Obj} {gl : Nat → AV} {K : Knob}
theorem drop_get {α : Type} {l : List α} {i : Nat} {x : α} (h : l[i]? = some x) : l.drop i = x :: l.drop (i + 1) := by
 obtain ⟨h1, rfl⟩ := List.getElem?_eq_some_iff.1 h
 exact List.drop_eq_getElem_cons h1
def gI (l : List LIns) : Bool := l.any fun x => decide (20 < x.args.list.length) || decide (20 < x.frm.list.length)
def gB (most : Int) : List LBlock → Int → Bool
 | [], _ => false
 | b :: l, n => decide (most < n + b.ins.list.length) || (gI b.ins.list || gB most l (n + b.ins.list.length))
def gF (most : Int) : List LFunc → Int → Bool
 | [], _ => false
 | f :: l, n => decide (20 < f.blocks.list.length) || (gB most f.blocks.list n || gF most l (n + q0q f.blocks.list))
def z1f (p : LProg) (most : Int) : Bool := great3 p.types.list || (decide (10 < p.funcs.list.length) || gF most p.funcs.list 0)
set_option maxHeartbeats 2000000 in
theorem Great6_pure (hP : POk Tryz.prog F gl K) (p : LProg) (most : Int) (hm : most < 1000000) (hb : ∀ f ∈ p.funcs.list, ∀ b ∈ f.blocks.list, b.ins.list.length < 4611686018427387904) : q0y Tryz.prog F q4l [.agg p.cells, .int .i64 most] (.bool (z1f p most)) := by
  refine CallsT.pure (O := fun u _ => u = .bool (z1f p most)) (k := 1) (by simp) ?_ (fun u g e => by subst e; rfl)
  refine CallsT.body hP q0e z0Q rfl rfl ?_
  have e1 := Great3_pure hP p.types
  cases h3 : great3 p.types.list with
  | true =>
    rw [h3] at e1
    repeat' first | refine TW.seq ?_ | refine TW.condT hP rfl ?_ | (refine TW.regG hP (by simp <;> rfl) ?_; dsimp only [goK]) | (refine TO.scall hP q6I (e1) ?_ rfl rfl rfl rfl ?_; (focus (simp; done)); refine TO.runsG hP (by simp <;> rfl) ?_; dsimp only [goK]) | simp only [q0a] | (refine TW.ret ⟨.inr rfl, _, _, rfl, rfl, ?_⟩; dsimp only [q0h])
    all_goals simp [z1f, h3]
  | false =>
  rw [h3] at e1
  repeat' first | refine TW.seq ?_ | refine TW.block ?_ | refine TW.skip ?_ | (refine TW.regG hP (by simp <;> rfl) ?_; dsimp only [goK]) | (refine TO.scall hP q6I (e1) ?_ rfl rfl rfl rfl ?_; (focus (simp; done)); refine TO.runsG hP (by simp <;> rfl) ?_; dsimp only [goK]) | simp only [q0a] | (refine TW.cond hP rfl (fun hc => ?_) (fun hc => ?_) <;> simp at hc) | (refine TW.ret ⟨.inr rfl, _, _, rfl, rfl, ?_⟩; dsimp only [q0h])
  · simp [z1f, h3]; exact .inl (by omega)
  have hw : z1f p most = gF most p.funcs.list 0 := by simp [z1f, h3]; intro h; omega
  rw [hw]
  refine TW.loopL (fun q : Nat × Int => [(1, .int .i64 most), (2, .ptr 0 0), (4, .bool false), (5, .int .i64 q.2), (6, .int .i64 q.1)]) (fun q g => q.1 ≤ p.funcs.list.length ∧ g.get 0 = some (.cells q0k p.cells) ∧ 0 ≤ q.2 ∧ (q.2 = 0 ∨ q.2 ≤ most) ∧ gF most p.funcs.list 0 = gF most (p.funcs.list.drop q.1) q.2) (fun q => p.funcs.list.length - q.1) ((0, 0)) ?_ ?_ ?_
  focus (repeat' first | exact q0c | refine q0b (by simp) ?_)
  · exact ⟨Nat.zero_le _, by simp, by simp, .inl rfl, rfl⟩
  rintro ⟨i, n⟩ g ⟨hi, hg0, hn0, hn1, hall⟩
  dsimp only [q0k, LProg.cells] at hi hg0 hn0 hn1 hall ⊢
  repeat' first | refine TW.seq ?_ | (refine TW.regG hP (by simp [hg0] <;> rfl) ?_; dsimp only [goK]) | simp only [q0a]
  refine TW.cond hP rfl (fun hc => TW.skip ?_) (fun hc => TW.exit ?_)
  · simp at hc
    obtain ⟨x, hx⟩ := q0g hc
    have hav := q0z (e := LFunc.cells) (show 0 < p.funcs.list.length by omega)
    have hbx := hb x (List.mem_of_getElem? hx)
    rw [drop_get hx, gF] at hall
    dsimp only [q0a]
    repeat' first | refine TW.seq ?_ | refine TW.block ?_ | refine TW.skip ?_ | (refine TW.regG hP (by simp [hg0, hx, hav] <;> rfl) ?_; dsimp only [goK]) | simp only [q0a] | (refine TW.cond hP rfl (fun hc => ?_) (fun hc => ?_) <;> simp at hc) | (refine TW.ret ⟨.inr rfl, _, _, rfl, rfl, ?_⟩; dsimp only [q0h])
    · rw [hall]; simp; exact .inl (by omega)
    rw [decide_eq_false (show ¬ 20 < x.blocks.list.length by omega), Bool.false_or] at hall
    refine TW.loopL (fun q : Nat × Int => [(1, .int .i64 most), (2, .ptr 0 0), (4, .bool false), (5, .int .i64 q.2), (6, .int .i64 i), (7, .int .i64 q.1)]) (fun q g => q.1 ≤ x.blocks.list.length ∧ g.get 0 = some (.cells q0k p.cells) ∧ 0 ≤ q.2 ∧ (q.2 = 0 ∨ q.2 ≤ most) ∧ gF most p.funcs.list 0 = (gB most (x.blocks.list.drop q.1) q.2 || gF most (p.funcs.list.drop (i + 1)) (q.2 + q0q (x.blocks.list.drop q.1)))) (fun q => x.blocks.list.length - q.1) ((0, n)) ?_ ?_ ?_
    focus (repeat' first | exact q0c | refine q0b (by simp) ?_)
    · exact ⟨Nat.zero_le _, hg0, hn0, hn1, hall⟩
    rintro ⟨k, m⟩ g ⟨hk, hg0, hm0, hm1, hall⟩
    dsimp only [q0k, LProg.cells] at hk hg0 hm0 hm1 hall ⊢
    repeat' first | refine TW.seq ?_ | (refine TW.regG hP (by simp [hg0, hx, hav] <;> rfl) ?_; dsimp only [goK]) | simp only [q0a]
    refine TW.cond hP rfl (fun hc => TW.skip ?_) (fun hc => TW.exit ?_)
    · simp at hc
      obtain ⟨y, hy⟩ := q0g hc
      have hbv := q0z (e := LBlock.cells) (show 0 < x.blocks.list.length by omega)
      have hby := hbx y (List.mem_of_getElem? hy)
      rw [drop_get hy, gB, q0q] at hall
      have hwn := w64e (n := m + y.ins.list.length) (by omega) (by omega)
      dsimp only [q0a]
      repeat' first | refine TW.seq ?_ | refine TW.block ?_ | refine TW.skip ?_ | (refine TW.regG hP (by simp [hg0, hx, hav, hy, hbv, hwn] <;> rfl) ?_; dsimp only [goK]) | simp only [q0a] | (refine TW.cond hP rfl (fun hc => ?_) (fun hc => ?_) <;> simp at hc) | (refine TW.ret ⟨.inr rfl, _, _, rfl, rfl, ?_⟩; dsimp only [q0h])
      · rw [hall]; simp; exact .inl (.inl (by omega))
      rw [decide_eq_false (show ¬ most < m + y.ins.list.length by omega), Bool.false_or, ← Int.add_assoc, Bool.or_assoc] at hall
      refine TW.loopL (fun j : Nat => [(1, .int .i64 most), (2, .ptr 0 0), (4, .bool false), (5, .int .i64 (m + y.ins.list.length)), (6, .int .i64 i), (7, .int .i64 k), (8, y.ins.av LIns.cells), (9, .int .i64 j)]) (fun j g => j ≤ y.ins.list.length ∧ g.get 0 = some (.cells q0k p.cells) ∧ gF most p.funcs.list 0 = (gI (y.ins.list.drop j) || (gB most (x.blocks.list.drop (k + 1)) (m + y.ins.list.length) || gF most (p.funcs.list.drop (i + 1)) (m + y.ins.list.length + q0q (x.blocks.list.drop (k + 1)))))) (fun j => y.ins.list.length - j) (0) ?_ ?_ ?_
      focus (repeat' first | exact q0c | refine q0b (by simp) ?_)
      · exact ⟨Nat.zero_le _, hg0, hall⟩
      rintro j g ⟨hj, hg0, hall⟩
      dsimp only [q0k, LProg.cells] at hj hg0 hall ⊢
      repeat' first | refine TW.seq ?_ | (refine TW.regG hP (by simp <;> rfl) ?_; dsimp only [goK]) | simp only [q0a]
      refine TW.cond hP rfl (fun hc => TW.skip ?_) (fun hc => TW.exit ?_)
      · simp at hc
        obtain ⟨z, hz⟩ := q0g hc
        have hiv := q0z (e := LIns.cells) (show 0 < y.ins.list.length by omega)
        rw [drop_get hz, gI, List.any_cons] at hall
        dsimp only [q0a]
        repeat' first | refine TW.seq ?_ | refine TW.block ?_ | refine TW.skip ?_ | refine TW.condT hP rfl ?_ | (refine TW.regG hP (by simp [hz, hiv] <;> rfl) ?_; dsimp only [goK]) | (refine q0E (fun hb => ?_) (fun hb => ?_) <;> (try simp only [Bool.not_eq_eq_eq_not, Bool.not_true, Bool.not_false] at hb) <;> (refine q2c (by simp [hb, hz] <;> rfl) ?_; dsimp only [goK])) | simp only [q0a, q0d] | (refine TW.cond hP rfl (fun hc => ?_) (fun hc => ?_) <;> simp at hc) | (refine TW.ret ⟨.inr rfl, _, _, rfl, rfl, ?_⟩; dsimp only [q0h])
        all_goals first
          | (rw [hall]; simp at hb; simp; exact .inl (.inl (.inl (by omega))))
          | (rw [hall]; simp; exact .inl (.inl (.inr (by omega))))
          | (refine ⟨j + 1, by omega, trivial, ?_, by omega, hg0, ?_⟩
             · (repeat' first | exact q0c | refine q0b (by simp [hiv, w64s (show j < 9000000000000000000 by omega)]) ?_)
             · simp at hb
               rw [decide_eq_false (show ¬ 20 < z.args.list.length by omega), decide_eq_false (show ¬ 20 < z.frm.list.length by omega)] at hall
               exact hall)
      · simp at hc
        dsimp only [q0a]
        repeat' first | (refine TW.regG hP (by simp <;> rfl) ?_; dsimp only [goK]) | simp only [q0d]
        rw [List.drop_of_length_le hc] at hall
        refine ⟨(k + 1, m + y.ins.list.length), by dsimp only; omega, trivial, ?_, by dsimp only; omega, hg0, by dsimp only; omega, by dsimp only; omega, hall⟩
        repeat' first | exact q0c | refine q0b (by simp [w64s (show k < 9000000000000000000 by omega)]) ?_
    · simp at hc
      dsimp only [q0a]
      repeat' first | (refine TW.regG hP (by simp <;> rfl) ?_; dsimp only [goK]) | simp only [q0d]
      rw [List.drop_of_length_le hc] at hall
      refine ⟨(i + 1, m), by dsimp only; omega, trivial, ?_, by dsimp only; omega, hg0, hm0, hm1, by simpa [gB, q0q] using hall⟩
      repeat' first | exact q0c | refine q0b (by simp [w64s (show i < 9000000000000000000 by omega)]) ?_
  · simp at hc
    dsimp only [q0a]
    repeat' first | refine TW.seq ?_ | (refine TW.regG hP (by simp <;> rfl) ?_; dsimp only [goK]) | simp only [q0a] | (refine TW.ret ⟨.inr rfl, _, _, rfl, rfl, ?_⟩; dsimp only [q0h])
    rw [hall, List.drop_of_length_le hc]; rfl
theorem gI_false {l : List LIns} (h : gI l = false) : ∀ x ∈ l, x.args.list.length ≤ 20 ∧ x.frm.list.length ≤ 20 := fun x hx => by
 have := List.any_eq_false.1 h x hx
 simp at this
 omega
theorem gB_false {most : Int} : ∀ {l : List LBlock} {n : Int}, gB most l n = false → (∀ b ∈ l, ∀ x ∈ b.ins.list, x.args.list.length ≤ 20 ∧ x.frm.list.length ≤ 20) ∧ (n + q0q l ≤ most ∨ l = [])
  | [], n, h => ⟨nofun, .inr rfl⟩
  | b :: l, n, h => by
    rw [gB, Bool.or_eq_false_iff, Bool.or_eq_false_iff] at h
    obtain ⟨h1, h2, h3⟩ := h
    obtain ⟨h4, h5⟩ := gB_false h3
    simp at h1
    refine ⟨fun c hc => ?_, .inl ?_⟩
    · rcases List.mem_cons.1 hc with rfl | hc
      · exact gI_false h2
      · exact h4 c hc
    · rw [q0q]
      rcases h5 with h5 | rfl
      · omega
      · simp [q0q]; omega
theorem gF_false {most : Int} : ∀ {l : List LFunc} {n : Int}, gF most l n = false → ∀ f ∈ l, f.blocks.list.length ≤ 20 ∧ (∀ b ∈ f.blocks.list, ∀ x ∈ b.ins.list, x.args.list.length ≤ 20 ∧ x.frm.list.length ≤ 20) ∧ (n + q0q f.blocks.list ≤ most ∨ f.blocks.list = [])
  | [], n, h => nofun
  | f :: l, n, h => by
    rw [gF, Bool.or_eq_false_iff, Bool.or_eq_false_iff] at h
    obtain ⟨h1, h2, h3⟩ := h
    simp at h1
    intro x hx
    rcases List.mem_cons.1 hx with rfl | hx
    · exact ⟨by omega, gB_false h2⟩
    · obtain ⟨a, b, c⟩ := gF_false h3 x hx
      have := q0J f.blocks.list
      exact ⟨a, b, c.imp (fun c => by omega) id⟩
theorem great6_small {p : LProg} {most : Int} (hm : most < 1000) (h : z1f p most = false) : SmallP p ∧ p.funcs.list.length ≤ 10 ∧ p.types.list.length ≤ 20 ∧ (∀ x ∈ p.types.list, x.parts.list.length ≤ 20) ∧ ∀ f ∈ p.funcs.list, f.blocks.list.length ≤ 20 ∧ (∀ b ∈ f.blocks.list, ∀ x ∈ b.ins.list, x.args.list.length ≤ 20 ∧ x.frm.list.length ≤ 20) ∧ (q0q f.blocks.list ≤ most ∨ f.blocks.list = []) := by
 rw [z1f, Bool.or_eq_false_iff, Bool.or_eq_false_iff] at h
 obtain ⟨h1, h2, h3⟩ := h
 rw [great3, Bool.or_eq_false_iff] at h1
 obtain ⟨h4, h5⟩ := h1
 simp at h2 h5
 rw [List.take_of_length_le (by omega)] at h4
 have h6 : ∀ x ∈ p.types.list, x.parts.list.length ≤ 20 := fun x hx => by have := List.any_eq_false.1 h4 x hx; simp at this; omega
 have h7 := fun f hf => gF_false h3 f hf
 simp only [Int.zero_add] at h7
 refine ⟨⟨by omega, fun x hx => by have := h6 x hx; omega, by omega, fun f hf => ?_⟩, by omega, by omega, h6, h7⟩
 obtain ⟨a, b, c⟩ := h7 f hf
 refine ⟨by omega, ?_, fun b' hb x hx => by have := b b' hb x hx; omega, fun b' hb x hx => by have := b b' hb x hx; omega⟩
 rcases c with c | c
 ·omega
 ·rw [c]; simp [q0q]
def q4e (p : LProg) (f : LFunc) (block at_ : Int) : Int := q0i p f + q0q (f.blocks.list.take block.toNat) + at_
def takeSl {α : Type} : Sl α → Nat → Sl α
 | .nil, _ => .nil
 | .mk l, n => .mk (l.take n)
theorem z0p {α : Type} (s : Sl α) (n : Nat) : (takeSl s n).list = s.list.take n := by cases s <;> simp [takeSl, Sl.list]
theorem slice_take {α : Type} {enc : α → List AV} {C : Ctx} {t eT : TypeId} {es : Nat} (ht : slT C t eT es = true) (he : ∀ x, (enc x).length = es) (s : Sl α) {n : Nat} (hn : n ≤ s.list.length) {h : Hp} : q5M C t (s.av enc) none (some (.int .i64 (n : Int))) none h = some ((takeSl s n).av enc) := by
  unfold slT at ht
  split at ht
  case h_2 => cases ht
  rename_i e size isAgg zero zeroOk bytes comparable zv y hti hy
  simp only [Bool.and_eq_true, decide_eq_true_eq] at ht
  obtain ⟨rfl, hys, hz, hby⟩ := ht
  unfold q5M
  rw [hti]
  cases s with
  | nil =>
    obtain rfl : n = 0 := by simpa [Sl.list] using hn
    simp [Sl.av, takeSl, q8u, q6d, hy]
  | mk l =>
    have hn' : n ≤ l.length := hn
    have hall : ((l.map enc).all fun c => Nat.beq c.length y.size) = true := List.all_eq_true.2 fun c hc => by obtain ⟨x, _, rfl⟩ := List.mem_map.1 hc; rw [he, hys]; exact Nat.beq_refl _
    have e0 : q6d (.int .i64 (n : Int)) = some n := rfl
    simp only [Sl.av, q8u, hy, e0, hall, List.length_map, takeSl, List.map_take]
    simp [q5O, hn']
theorem number6_pure (hP : POk Tryz.prog F gl K) (hX : ∀ f a, K.ext f a = none) (p : LProg) (hs : SmallP p) (f : Nat) (x : LFunc) (hf : p.funcs.list[f]? = some x) (h0 : 0 ≤ x.sig) (h1 : x.sig < p.types.list.length) (b : Nat) (hb : b ≤ x.blocks.list.length) (at_ : Int) (ha : 0 ≤ at_ ∧ at_ < 1000000000) :
  q0y Tryz.prog F q3Q [.agg p.cells, .int .i64 f, .int .i64 b, .int .i64 at_] (.int .i64 (q4e p x b at_)) := by
 refine CallsT.pure (O := fun u _ => u = .int .i64 (q4e p x b at_)) (k := 1) (by simp) ?_ (fun u g e => by subst e; rfl)
 refine CallsT.body hP q0e q9X rfl rfl ?_
 have hsf := hs.funcs x (List.mem_of_getElem? hf)
 have hav := q0z (e := LFunc.cells) (show 0 < p.funcs.list.length by have := (List.getElem?_eq_some_iff.1 hf).1; omega)
 have hle := q3h x.blocks.list b
 have hpos := q0J (x.blocks.list.take b)
 have hm := hsf.many
 have hnb := hsf.nb
 have e1 := many6_pure hP (takeSl x.blocks b) (by rw [z0p, List.length_take]; omega) (by rw [z0p]; omega)
 rw [z0p] at e1
 have e2 := q6W hP p x h0 h1
 have hsp : 0 ≤ q0i p x ∧ q0i p x < 900000 := by
  unfold q0i
  cases hx : p.types.list[x.sig.toNat]? with
  | none => simp
  | some y => have := hs.parts y (List.mem_of_getElem? hx); simp; omega
 have hsl := fun T h => slice_take (enc := LBlock.cells) (C := Ctx.of Tryz.prog gl (K.tell T)) (h := h) (q7t (gl := gl) (K := K.tell T)) (fun _ => rfl) x.blocks hb
 dsimp only [q1D] at hsl
 refine TW.seq (TW.regG hP (by simp <;> rfl) ?_)
 dsimp only [goK, q0a, q0f, q0d]
 try refine TW.seq ?_
 refine TW.drawG hP [(q0t, [.agg p.cells, .agg x.cells], .int .i64 (q0i p x)), (q0G, [(takeSl x.blocks b).av LBlock.cells], .int .i64 (q0q (x.blocks.list.take b)))] (fun e he => by rcases List.mem_cons.1 he with rfl | he; exact e2; rcases List.mem_cons.1 he with rfl | he; exact e1; cases he) (by kernel_rfl) (by simp [hX, hf, hav, hsl, w64e (n := q0i p x + q0q (x.blocks.list.take b)) (by omega) (by omega), w64e (n := q0i p x + q0q (x.blocks.list.take b) + at_) (by omega) (by omega), q0t, q1j, q1k, q0G, q1O, q1P] <;> rfl) ?_
 repeat' (refine q2V (fun hb => ?_) (fun hb => ?_) <;> (try simp only [Bool.not_eq_eq_eq_not, Bool.not_true, Bool.not_false] at hb) <;> refine q8q (by simp [hb, hX, hf, hav, hsl, w64e (n := q0i p x + q0q (x.blocks.list.take b)) (by omega) (by omega), w64e (n := q0i p x + q0q (x.blocks.list.take b) + at_) (by omega) (by omega), q0t, q1j, q1k, q0G, q1O, q1P] <;> rfl) ?_)
 all_goals dsimp only [okQ, q0a]
 repeat' first | (refine TW.ret ⟨.inr rfl, _, _, rfl, rfl, ?_⟩; dsimp only [q0h])
 simp [q4e]
end Go.Ax
set_option maxRecDepth 20000
noncomputable section
namespace Go.Ax
open Go.Proofs
section
variable {P : Program} {F : Nat → Option Obj} {n : Nat} {rd : Option Nat} {l l' : Kn} {h : Hp} {ds : List ADef} {Q : PQ}
def FrzK (S : Nat → Prop) (h : Hp) (l l' : Kn) : Prop := ∀ t v', kn l' t = some v' → kn l t = some v' ∨ ∃ v k, kn l t = some v ∧ RdF S h k v v'
theorem frz_nil {S : Nat → Prop} : FrzK S h l [] := fun t v e => by cases e
theorem q1M {S : Nat → Prop} {t : Nat} {v : AV} (h1 : kn l t = some v) (h2 : FrzK S h l l') : FrzK S h l ((t, v) :: l') := fun u w hu => by
 unfold kn at hu
 cases hb : Nat.beq t u with
 | true => rw [hb] at hu; cases hu; rw [← Nat.eq_of_beq_eq_true hb]; exact .inl h1
 | false => rw [hb] at hu; exact h2 u w hu
theorem q6U {S : Nat → Prop} {t k : Nat} {v v' : AV} (h1 : kn l t = some v) (h3 : RdF S h k v v') (h2 : FrzK S h l l') : FrzK S h l ((t, v') :: l') := fun u w hu => by
 unfold kn at hu
 cases hb : Nat.beq t u with
 | true => rw [hb] at hu; cases hu; rw [← Nat.eq_of_beq_eq_true hb]; exact .inr ⟨v, k, h1, h3⟩
 | false => rw [hb] at hu; exact h2 u w hu
end
attribute [local irreducible] TW TO CallsT q0y
variable {F : Nat → Option Obj} {gl : Nat → AV} {K : Knob} {S S' : Nat → Prop}
def z1d (g : List Int) (n : Nat) : Nat := ((List.range n).filter fun k : Nat => in27 g (k : Int)).length
theorem cntIn_succ (g : List Int) (n : Nat) : z1d g (n + 1) = z1d g n + if in27 g (n : Int) = true then 1 else 0 := by
 unfold z1d
 rw [List.range_succ, List.filter_append, List.length_append]
 congr 1
 by_cases h : in27 g (n : Int) = true <;> simp [h]
theorem cntIn_le (g : List Int) (n : Nat) : z1d g n ≤ n := by
 unfold z1d
 have := List.length_filter_le (fun k : Nat => in27 g (k : Int)) (List.range n)
 simpa using this
def q4I (g : List Int) (n : Nat) : List Int := (List.range n).map fun r : Nat => (r : Int) - z1d g r
theorem turnedL_succ (g : List Int) (n : Nat) : q4I g (n + 1) = q4I g n ++ [(n : Int) - z1d g n] := by simp [q4I, List.range_succ]
theorem turnedL_len (g : List Int) (n : Nat) : (q4I g n).length = n := by simp [q4I]
def keptI (p : LProg) (x : LFunc) (g : List Int) (bi : Nat) (y : LIns × Nat) : Bool := !in27 g (q4e p x bi y.2)
def q7p (p : LProg) (x : LFunc) (g : List Int) (b : LBlock × Nat) : LBlock := { ins := .of ((b.1.ins.list.zipIdx.filter (keptI p x g b.2)).map (·.1)), ed := b.1.ed }
def q6e (p : LProg) (x : LFunc) (g : List Int) : List LBlock := (x.blocks.list.map (q4E (q4I g (q0w p x).toNat))).zipIdx.map (q7p p x g)
def q7P (p : LProg) (f : Nat) (x : LFunc) (g : List Int) : LProg := { types := .of (p.types.list.map q5j), funcs := .of ((p.funcs.list.map q4y).set f { sig := x.sig, blocks := .of (q6e p x g) }) }
theorem z0j {α : Type} {l : List α} {i : Nat} {x : α} (h : l[i]? = some x) : l.zipIdx[i]? = some (x, i) := by
 rw [List.getElem?_zipIdx, h]; simp
theorem rdL_ins {S : Nat → Prop} {h : Hp} {k : Nat} (y : LIns) : RdL S h (k + 1) y.cells y.cells := .cons q0N (.cons q0N (.cons q0N (.cons q0N (.cons q0N (.cons (fun _ _ => q6R (fun _ => rfl) _) (.cons (fun _ _ => q6R (fun _ => rfl) _) .nil))))))
theorem regs6_bnd {p : LProg} (hs : SmallP p) {f : Nat} {x : LFunc} (hf : p.funcs.list[f]? = some x) : 0 ≤ q0w p x ∧ q0w p x < 1800000 := by
 have hsf := hs.funcs x (List.mem_of_getElem? hf)
 have h1 := q0J x.blocks.list
 have h2 := hsf.many
 have hsp : 0 ≤ q0i p x ∧ q0i p x < 900000 := by
  unfold q0i
  cases hx : p.types.list[x.sig.toNat]? with
  | none => simp
  | some y => have := hs.parts y (List.mem_of_getElem? hx); simp; omega
 unfold q0w
 omega
theorem mapO_set {α β : Type} {f : α → Option β} {x : α} {y : β} (hx : f x = some y) : ∀ {l : List α} {m : List β} {i : Nat}, mapO f l = some m → mapO f (l.set i x) = some (m.set i y)
  | [], m, i, e => by cases e; rfl
  | a :: l, m, i, e => by
    unfold mapO at e
    split at e
    case h_2 => cases e
    rename_i b hb
    split at e
    case h_2 => cases e
    rename_i m' hm
    cases e
    cases i with
    | zero => simp [mapO, hx, hm]
    | succ i => simp [mapO, hb, mapO_set hx hm]
theorem RdR.set {S : Nat → Prop} {h : Hp} {k i : Nat} {l m : List (List AV)} {a b : List AV} (H : RdR S h k l m) (J : RdL S h k a b) : RdR S h k (l.set i a) (m.set i b) := fun g hg => mapO_set (J g hg) (H g hg)
theorem frz_m {h g : Hp} (e : h.m = g.m) : ∀ (k : Nat) (v : AV), frzV k h v = frzV k g v
  | 0, _ => rfl
  | k + 1, v => by
    have ih : frzV k h = frzV k g := funext (frz_m e k)
    have hg : ∀ r, h.get r = g.get r := fun r => by show h.m.get r = g.m.get r; rw [e]
    unfold frzV
    rw [ih]
    simp only [hg]
theorem Own.rd' {es b k : Nat} {eT : TypeId} {h : Hp} {v : AV} {rows fz : List (List AV)} (ho : Own es eT b h v rows) (hrows : ∀ c ∈ rows, c.length = es) (hf : mapO (mapO (frzV k h)) rows = some fz) : frzV (k + 1) h v = some (islOf fz) := by
 have := ho.frz hrows hf
 cases fz <;> exact this
set_option maxHeartbeats 4000000 in
theorem Without_pure (hP : POk Tryz.prog F gl K) (hX : ∀ f a, K.ext f a = none) (p : LProg) (hs : SmallP p) (f : Nat) (x : LFunc) (hf : p.funcs.list[f]? = some x) (h0' : 0 ≤ x.sig) (h1' : x.sig < p.types.list.length) (gone : Sl Int) (hgl : gone.list.length < 1000000) (hn : q0w p x < 1000000) (hr : ∀ b ∈ x.blocks.list, RegsIn (q0w p x).toNat b) :
    q0y Tryz.prog F q3q [.agg p.cells, .int .i64 f, gone.av cI] (.agg (q7P p f x gone.list).cells) := by
  refine CallsT.pure (O := fun u g => frzV 6 g u = some (.agg (q7P p f x gone.list).cells)) (k := 6) (by simp) ?_ (fun u g e => e)
  refine CallsT.body hP q0e q9o rfl rfl ?_
  obtain ⟨hb1, hb2⟩ := regs6_bnd hs hf
  have e1 := q6B hP hX p hs f x hf h0' h1'
  repeat' first | refine TW.seq ?_ | refine TW.block ?_ | (refine TW.regG hP (by simp <;> rfl) ?_; dsimp only [goK])
  refine TW.loopL (fun q : Nat × AV => [(1, .int .i64 f), (2, gone.av cI), (3, .ptr 0 0), (6, .ptr 1 0), (7, q.2), (8, .int .i64 (z1d gone.list q.1)), (9, .int .i64 q.1)]) (fun q g => q.1 ≤ (q0w p x).toNat ∧ 2 ≤ g.nx ∧ g.get 0 = some (.cells q0k p.cells) ∧ g.get 1 = some (.cells q0k [.nilsl, .nilsl]) ∧ Own 1 q0C 2 g q.2 ((q4I gone.list q.1).map cI)) (fun q => (q0w p x).toNat - q.1) ((0, .nilsl)) ?_ ?_ ?_
  focus (repeat' first | exact q0c | refine q0b (by simp [z1d]) ?_)
  · exact ⟨Nat.zero_le _, by simp, by simp, by simp, .nil⟩
  rintro ⟨r, v⟩ g ⟨hi, hnx, hg0, hg1, hown⟩
  dsimp only [q0k, LProg.cells] at hi hg0 hg1 hown ⊢
  have hcl := cntIn_le gone.list r
  repeat' first | refine TW.seq ?_ | (refine TW.regG hP (by simp [hg0] <;> rfl) ?_; dsimp only [goK]) | (refine TO.scall hP q2m (e1) ?_ rfl rfl rfl rfl ?_; (focus (simp; done)); refine TO.runsG hP (by simp <;> rfl) ?_; dsimp only [goK]) | simp only [q0a]
  refine TW.cond hP rfl (fun hc => TW.skip ?_) (fun hc => TW.exit ?_)
  · simp at hc
    have e2 := q8V hP gone (r : Int) hgl
    obtain ⟨v', h', q1, q2, q3, q4⟩ := hown.push (t := q0u) (row := [.int .i64 ((r : Int) - z1d gone.list r)]) (q0Q (gl := gl) (K := K)) q1a rfl rfl (by simp [turnedL_len]; omega) hnx
    dsimp only [q0u, q0C] at q1
    have hw1 := w64e (n := (r : Int) - z1d gone.list r) (by omega) (by omega)
    have hcs := cntIn_succ gone.list r
    have hown' : Own 1 q0C 2 h' v' ((q4I gone.list (r + 1)).map cI) := by rw [turnedL_succ, List.map_append]; exact q2
    dsimp only [q0a]
    cases hin : in27 gone.list (r : Int) with
    | false =>
      rw [hin] at e2 hcs
      repeat' first | refine TW.seq ?_ | refine TW.block ?_ | refine TW.skip ?_ | refine TW.condF hP rfl ?_ | (refine TW.regG hP (by simp [hw1, q1] <;> rfl) ?_; dsimp only [goK]) | (refine TO.scall hP q0U (e2) ?_ rfl rfl rfl rfl ?_; (focus (simp; done)); refine TO.runsG hP (by simp <;> rfl) ?_; dsimp only [goK]) | simp only [q0d]
      refine ⟨(r + 1, v'), by dsimp only; omega, trivial, ?_, by dsimp only; omega, by omega, (q3.get 0 (by omega)).trans hg0, (q3.get 1 (by omega)).trans hg1, hown'⟩
      repeat' first | exact q0c | refine q0b (by simp [hcs, w64s (show r < 9000000000000000000 by omega)]) ?_
    | true =>
      rw [hin] at e2 hcs
      repeat' first | refine TW.seq ?_ | refine TW.block ?_ | refine TW.condT hP rfl ?_ | (refine TW.regG hP (by simp [hw1, q1] <;> rfl) ?_; dsimp only [goK]) | (refine TO.scall hP q0U (e2) ?_ rfl rfl rfl rfl ?_; (focus (simp; done)); refine TO.runsG hP (by simp <;> rfl) ?_; dsimp only [goK]) | simp only [q0d]
      refine ⟨(r + 1, v'), by dsimp only; omega, trivial, ?_, by dsimp only; omega, by omega, (q3.get 0 (by omega)).trans hg0, (q3.get 1 (by omega)).trans hg1, hown'⟩
      repeat' first | exact q0c | refine q0b (by simp [hcs, w64s (show r < 9000000000000000000 by omega), w64s (show z1d gone.list r < 9000000000000000000 by omega)]) ?_
  · simp at hc
    obtain rfl : r = (q0w p x).toNat := by omega
    simp only [q0a, q0f, q0d, ↓reduceIte]
    obtain ⟨S1, hS1, hi1⟩ := own_intS hown
    refine TW.freeze (l' := [(1, .int .i64 f), (2, gone.av cI), (3, .ptr 0 0), (6, .ptr 1 0), (7, (Sl.of (q4I gone.list (q0w p x).toNat)).av cI)]) S1 (q1M rfl (q1M rfl (q1M rfl (q1M rfl (q6U rfl hi1.rd frz_nil))))) ?_
    refine TW.gen (fun k => 2 ≤ k.nx ∧ k.get 0 = some (.cells q0k p.cells) ∧ k.get 1 = some (.cells q0k [.nilsl, .nilsl])) ⟨hnx, (q8p (fun h => by have := hS1 _ h; omega)).trans hg0, (q8p (fun h => by have := hS1 _ h; omega)).trans hg1⟩ fun k hk => ?_
    obtain ⟨hnk, hk0, hk1⟩ := hk
    dsimp only [q0k, LProg.cells] at hk0 hk1
    clear hg0 hg1 hown hi1 hnx
    have hav := q0z (e := LFunc.cells) (show 0 < p.funcs.list.length by have := (List.getElem?_eq_some_iff.1 hf).1; omega)
    have hfb := (hs.funcs x (List.mem_of_getElem? hf)).blk
    have e3 := Turned_pure hP hX x.blocks (.of (q4I gone.list (q0w p x).toNat)) hfb.1 hfb.2 (fun b hb => by rw [Sl.of_list, turnedL_len]; exact hr b hb)
    rw [Sl.of_list] at e3
    generalize hall : x.blocks.list.map (q4E (q4I gone.list (q0w p x).toNat)) = all at e3
    have hlen : all.length = x.blocks.list.length := by rw [← hall]; simp
    repeat' first | refine TW.seq ?_ | refine TW.block ?_ | (refine TW.regG hP (by simp [hk0, hf, hav] <;> rfl) ?_; dsimp only [goK]) | (refine TO.scall hP q9N (e3) ?_ rfl rfl rfl rfl ?_; (focus (simp; done)); refine TO.runsG hP (by simp <;> rfl) ?_; dsimp only [goK])
    refine TW.loopL (fun q : Nat × AV => [(1, .int .i64 f), (2, gone.av cI), (3, .ptr 0 0), (6, .ptr 1 0), (10, (Sl.of all).av LBlock.cells), (11, q.2), (12, .int .i64 q.1)]) (fun q g => q.1 ≤ all.length ∧ 2 ≤ g.nx ∧ g.get 0 = some (.cells q0k p.cells) ∧ g.get 1 = some (.cells q0k [.nilsl, .nilsl]) ∧ OwnD 2 5 q0s 2 g q.2 (((all.zipIdx.take q.1).map (q7p p x gone.list)).map LBlock.cells)) (fun q => all.length - q.1) ((0, .nilsl)) ?_ ?_ ?_
    focus (repeat' first | exact q0c | refine q0b (by simp) ?_)
    · exact ⟨Nat.zero_le _, hnk, hk0, hk1, .nil⟩
    clear hk0 hk1 hnk
    rintro ⟨i, v⟩ g ⟨hi, hnx, hg0, hg1, hown⟩
    dsimp only [q0k, LProg.cells] at hi hg0 hg1 hown ⊢
    repeat' first | refine TW.seq ?_ | (refine TW.regG hP (by simp [Sl.of_list] <;> rfl) ?_; dsimp only [goK]) | simp only [q0a]
    refine TW.cond hP rfl (fun hc => TW.skip ?_) (fun hc => TW.exit ?_)
    · simp at hc
      have hci := hc
      obtain ⟨y, hy⟩ := q0g hc
      obtain ⟨b, hb, hby⟩ : ∃ b, x.blocks.list[i]? = some b ∧ q4E (q4I gone.list (q0w p x).toNat) b = y := by
        rw [← hall, List.getElem?_map] at hy
        cases hq : x.blocks.list[i]? with
        | none => rw [hq] at hy; cases hy
        | some b => rw [hq] at hy; exact ⟨b, rfl, by simpa using hy⟩
      have hyl : y.ins.list.length < 1000000 := by
        rw [← hby]
        have := (hfb.2 b (List.mem_of_getElem? hb)).1
        simpa [q4E, Sl.of_list] using this
      have hbl : i < x.blocks.list.length := (List.getElem?_eq_some_iff.1 hb).1
      have hbv := q0z (e := LBlock.cells) (x := Sl.of all) (by rw [Sl.of_list]; omega)
      rw [Sl.of_list] at hbv
      dsimp only [q0a]
      refine TW.seq ?_
      refine TW.block ?_
      refine TW.seq (TW.regG hP (by simp [hy, hbv] <;> rfl) ?_)
      dsimp only [goK, q0a, q0f, q0d]
      refine TW.gen (fun k => k.get g.nx = some (.cells q0s (.nilsl :: y.ed.cells)) ∧ Wid g k ∧ k.nx = g.nx + 1) ⟨by simp, ((Wid.refl g).new _).put (by simp) _, by simp⟩ fun k hk => ?_
      obtain ⟨hk, hw, hn'⟩ := hk
      repeat' first | refine TW.seq ?_ | refine TW.block ?_ | (refine TW.regG hP (by simp <;> rfl) ?_; dsimp only [goK])
      refine TW.loopL (fun q : Nat × AV => [(1, .int .i64 f), (2, gone.av cI), (3, .ptr 0 0), (6, .ptr 1 0), (10, (Sl.of all).av LBlock.cells), (11, v), (12, .int .i64 i), (13, .ptr g.nx 0), (14, .int .i64 q.1)]) (fun q m => q.1 ≤ y.ins.list.length ∧ m.get g.nx = some (.cells q0s (q.2 :: y.ed.cells)) ∧ Wid g m ∧ g.nx < m.nx ∧ OwnD 1 7 q0M (g.nx + 1) m q.2 ((((y.ins.list.zipIdx.take q.1).filter (keptI p x gone.list i)).map (·.1)).map LIns.cells)) (fun q => y.ins.list.length - q.1) ((0, .nilsl)) ?_ ?_ ?_
      focus (repeat' first | exact q0c | refine q0b (by simp [hbv]) ?_)
      · exact ⟨Nat.zero_le _, hk, hw, by omega, .nil⟩
      rintro ⟨j, u⟩ m ⟨hj, hm, hwm, hnm, hin⟩
      dsimp only [q0s, LEnd.cells] at hj hm hin ⊢
      have hm0 : m.get 0 = _ := hwm.at hg0 (by omega)
      repeat' first | refine TW.seq ?_ | (refine TW.regG hP (by simp [hy, hbv] <;> rfl) ?_; dsimp only [goK]) | simp only [q0a]
      refine TW.cond hP rfl (fun hc => TW.skip ?_) (fun hc => TW.exit ?_)
      · simp at hc
        obtain ⟨z, hz⟩ := q0g hc
        have hiv := q0z (e := LIns.cells) (show 0 < y.ins.list.length by omega)
        have hzz := z0j hz
        have e4 := number6_pure hP hX p hs f x hf h0' h1' i (by omega) (j : Int) (by omega)
        have e5 := q8V hP gone (q4e p x i j) hgl
        have hfl : (((y.ins.list.zipIdx.take j).filter (keptI p x gone.list i)).map (·.1)).length ≤ j := by
          rw [List.length_map]
          refine Nat.le_trans (List.length_filter_le _ _) ?_
          simp; omega
        have hts : (y.ins.list.zipIdx.take (j + 1)).filter (keptI p x gone.list i) = (y.ins.list.zipIdx.take j).filter (keptI p x gone.list i) ++ if in27 gone.list (q4e p x i j) = true then [] else [(z, j)] := by
          obtain ⟨h1, h2⟩ := List.getElem?_eq_some_iff.1 hzz
          rw [List.take_succ_eq_append_getElem h1, h2, List.filter_append]
          congr 1
          by_cases h : in27 gone.list (q4e p x i j) = true <;> simp [keptI, h]
        dsimp only [q0a]
        cases hgi : in27 gone.list (q4e p x i j) with
        | true =>
          rw [hgi] at e5
          rw [hgi, if_pos rfl, List.append_nil] at hts
          repeat' first | refine TW.seq ?_ | refine TW.block ?_ | refine TW.skip ?_ | refine TW.condF hP rfl ?_ | (refine TW.regG hP (by simp [hm0] <;> rfl) ?_; dsimp only [goK]) | (refine TO.scall hP q2I (e4) ?_ rfl rfl rfl rfl ?_; (focus (simp; done)); refine TO.runsG hP (by simp <;> rfl) ?_; dsimp only [goK]) | (refine TO.scall hP q0U (e5) ?_ rfl rfl rfl rfl ?_; (focus (simp; done)); refine TO.runsG hP (by simp <;> rfl) ?_; dsimp only [goK]) | simp only [q0d]
          refine ⟨(j + 1, u), by dsimp only; omega, trivial, ?_, by dsimp only; omega, hm, hwm, hnm, by rw [hts]; exact hin⟩
          repeat' first | exact q0c | refine q0b (by simp [hbv, w64s (show j < 9000000000000000000 by omega)]) ?_
        | false =>
          rw [hgi] at e5
          rw [hgi, if_neg (by decide)] at hts
          obtain ⟨v', h', q1, q2, q3, q4⟩ := hin.push (t := q3V) (C := Ctx.of Tryz.prog gl (K.tell [])) (g := m) (row := z.cells) (frow := z.cells) (z1j (gl := gl) (K := K.tell _)) (.refl m) rfl (by simp) (by rw [List.length_map]; omega) (by omega) (S' := fun _ => False) nofun (rdL_ins z)
          obtain ⟨h2, q5, q6⟩ := append_up q1
          have hmb : h2.get g.nx = _ := (q6f q6 _).trans ((q3.get _ (by omega)).trans hm)
          have hn2 := nx_of_z q6
          obtain ⟨d1, d2⟩ := q2.cell
          dsimp only [q3V, q0M, LIns.cells] at q5
          have hout : OwnD 1 7 q0M (g.nx + 1) (h2.put g.nx (.cells 49 [v', .int .u8 y.ed.kind, .int .i64 y.ed.a, .int .i64 y.ed.to, .int .i64 y.ed.els])).z v' ((((y.ins.list.zipIdx.take (j + 1)).filter (keptI p x gone.list i)).map (·.1)).map LIns.cells) := by
            rw [hts, List.map_append, List.map_append]
            exact (q2.agr (g := h2) (by omega) fun r _ _ => q6f q6 r).put (by omega) _
          have hwn : Wid g (h2.put g.nx (.cells 49 [v', .int .u8 y.ed.kind, .int .i64 y.ed.a, .int .i64 y.ed.to, .int .i64 y.ed.els])).z := by
            refine ⟨by show g.nx ≤ h2.nx; have := hwm.nx; omega, fun s hs => ?_⟩
            rw [q1F, get_put, if_neg (by omega), q6f q6, q3.get s (by omega), hwm.get s hs]
          repeat' first | refine TW.seq ?_ | refine TW.block ?_ | refine TW.condT hP rfl ?_ | (refine TW.regG hP (by simp [hm0] <;> rfl) ?_; dsimp only [goK]) | (refine TO.scall hP q2I (e4) ?_ rfl rfl rfl rfl ?_; (focus (simp; done)); refine TO.runsG hP (by simp <;> rfl) ?_; dsimp only [goK]) | (refine TO.scall hP q0U (e5) ?_ rfl rfl rfl rfl ?_; (focus (simp; done)); refine TO.runsG hP (by simp <;> rfl) ?_; dsimp only [goK])
          rcases hin.cases with rfl | ⟨r, c, hr1, hr2, rfl⟩
          · try refine TW.seq ?_
            refine TW.drawH hP [] (fun e he => by cases he) [0, 1, 0, 0, 12, 28, 60, 0, 252, 508, 1020, 2047, 4095, 8191] (by kernel_rfl) (by kernel_rfl) (by simp [hm, hy, hz, hiv, q5, hmb, d1, d2, (show ¬ m.nx ≤ g.nx by omega), oneD, fpAt, fpOf, q0v, ldOf, q0T, q0m, FP.clash, FP.hard, FP.soft, overlap, inR, q0A, q1T, Nat.testBit] <;> rfl) ?_
            repeat' (refine q1A (fun hb => ?_) (fun hb => ?_) <;> (try simp only [Bool.not_eq_eq_eq_not, Bool.not_true, Bool.not_false] at hb) <;> refine q4H (by simp [hb, hX, hm, hy, hbv, hz, hiv, q5, hmb, d1, d2, (show ¬ m.nx ≤ g.nx by omega), oneD, fpAt, fpOf, q0v, ldOf, q0T, q0m, FP.clash, FP.hard, FP.soft, overlap, inR, q0A, q1T, Nat.testBit, show ¬ m.nx + 1 ≤ m.nx by omega, show ¬ m.nx + 2 ≤ m.nx by omega, show ¬ m.nx + 2 ≤ m.nx + 1 by omega, show ¬ m.nx + 3 ≤ m.nx by omega, show ¬ m.nx + 3 ≤ m.nx + 1 by omega, show ¬ m.nx + 3 ≤ m.nx + 2 by omega] <;> rfl) ?_)
            all_goals dsimp only [okD, q0a]
            repeat' first | (refine TW.regG hP (by simp <;> rfl) ?_; dsimp only [goK]) | simp only [q0d]
            refine ⟨(j + 1, v'), by dsimp only; omega, trivial, ?_, by dsimp only; omega, ?_, hwn, ?_, hout⟩
            · repeat' first | exact q0c | refine q0b (by simp [hbv, w64s (show j < 9000000000000000000 by omega)]) ?_
            · rw [q1F, get_put, if_pos rfl]
            · show g.nx < h2.nx; omega
          · try refine TW.seq ?_
            refine TW.drawH hP [] (fun e he => by cases he) [0, 1, 0, 0, 12, 28, 60, 0, 252, 508, 1020, 2047, 4095, 8191] (by kernel_rfl) (by kernel_rfl) (by simp [hm, hy, hz, hiv, q5, hmb, d1, d2, (show ¬ m.nx ≤ g.nx by omega), (show ¬ r = g.nx by omega), (show ¬ g.nx = r by omega), (show ¬ m.nx ≤ r by omega), oneD, fpAt, fpOf, q0v, ldOf, q0T, q0m, FP.clash, FP.hard, FP.soft, overlap, inR, q0A, q1T, Nat.testBit] <;> rfl) ?_
            repeat' (refine q1A (fun hb => ?_) (fun hb => ?_) <;> (try simp only [Bool.not_eq_eq_eq_not, Bool.not_true, Bool.not_false] at hb) <;> refine q4H (by simp [hb, hX, hm, hy, hbv, hz, hiv, q5, hmb, d1, d2, (show ¬ m.nx ≤ g.nx by omega), (show ¬ r = g.nx by omega), (show ¬ g.nx = r by omega), (show ¬ m.nx ≤ r by omega), oneD, fpAt, fpOf, q0v, ldOf, q0T, q0m, FP.clash, FP.hard, FP.soft, overlap, inR, q0A, q1T, Nat.testBit, show ¬ m.nx + 1 ≤ m.nx by omega, show ¬ m.nx + 2 ≤ m.nx by omega, show ¬ m.nx + 2 ≤ m.nx + 1 by omega, show ¬ m.nx + 3 ≤ m.nx by omega, show ¬ m.nx + 3 ≤ m.nx + 1 by omega, show ¬ m.nx + 3 ≤ m.nx + 2 by omega] <;> rfl) ?_)
            all_goals dsimp only [okD, q0a]
            repeat' first | (refine TW.regG hP (by simp <;> rfl) ?_; dsimp only [goK]) | simp only [q0d]
            refine ⟨(j + 1, v'), by dsimp only; omega, trivial, ?_, by dsimp only; omega, ?_, hwn, ?_, hout⟩
            · repeat' first | exact q0c | refine q0b (by simp [hbv, w64s (show j < 9000000000000000000 by omega)]) ?_
            · rw [q1F, get_put, if_pos rfl]
            · show g.nx < h2.nx; omega
      · simp at hc
        rw [List.take_of_length_le (by simpa using hc)] at hin
        obtain ⟨S, hS, hrd⟩ := hin.rd
        rw [q5C] at hrd
        obtain ⟨d1, d2⟩ := hin.cell
        obtain ⟨v', h', q1, q2, q3, q4⟩ := hown.push (t := q1D) (g := m) (row := u :: y.ed.cells) (frow := (q7p p x gone.list (y, i)).cells) (q7t (gl := gl) (K := K)) hwm rfl (by simp [d1]) (by simp; omega) hnx (S' := S) (fun r h => by have := hS r h; omega) (.cons hrd (.cons q0N (.cons q0N (.cons q0N (.cons q0N .nil)))))
        dsimp only [q1D, q0s, LEnd.cells] at q1
        dsimp only [q0a]
        repeat' first | (refine TW.regG hP (by simp [hm, q1] <;> rfl) ?_; dsimp only [goK]) | simp only [q0d]
        refine ⟨(i + 1, v'), by dsimp only; omega, trivial, ?_, by dsimp only; omega, by have := hwm.nx; omega, (q3.get 0 (by omega)).trans (hwm.at hg0 (by omega)), (q3.get 1 (by omega)).trans (hwm.at hg1 (by omega)), ?_⟩
        · repeat' first | exact q0c | refine q0b (by simp [hbv, w64s (show i < 9000000000000000000 by omega)]) ?_
        · dsimp only; rw [q2x (z0j hy), List.map_append]; exact q2
    · simp at hc
      rw [List.take_of_length_le (by simpa using hc)] at hown
      simp only [q0a, q0f, q0d, ↓reduceIte]
      obtain ⟨S2, hS2, hr2⟩ := hown.rd
      rw [q5C] at hr2
      have hwb : all.zipIdx.map (q7p p x gone.list) = q6e p x gone.list := by rw [q6e, hall]
      rw [hwb] at hr2
      refine TW.freeze (l' := [(1, .int .i64 f), (2, gone.av cI), (3, .ptr 0 0), (6, .ptr 1 0), (11, (Sl.of (q6e p x gone.list)).av LBlock.cells)]) S2 (q1M rfl (q1M rfl (q1M rfl (q1M rfl (q6U rfl hr2 frz_nil))))) ?_
      refine TW.gen (fun k => 2 ≤ k.nx ∧ k.get 0 = some (.cells q0k p.cells) ∧ k.get 1 = some (.cells q0k [.nilsl, .nilsl])) ⟨hnx, (q8p (fun h => by have := hS2 _ h; omega)).trans hg0, (q8p (fun h => by have := hS2 _ h; omega)).trans hg1⟩ fun k hk => ?_
      obtain ⟨hnk, hk0, hk1⟩ := hk
      dsimp only [q0k, LProg.cells] at hk0 hk1
      clear hg0 hg1 hown hr2 hnx hS2
      have hnf := hs.nf
      repeat' first | refine TW.seq ?_ | (refine TW.regG hP (by simp [hk0] <;> rfl) ?_; dsimp only [goK])
      refine TO.ccall hP q5e (Twin6_mem hP hX p hs _) (by simp) rfl rfl rfl rfl (fun u g2 ⟨fv, hu, hw2, hfv⟩ => ?_)
      subst hu
      obtain ⟨d1, d2⟩ := hfv.cell
      refine TO.runsG hP (by simp [d1] <;> rfl) ?_
      dsimp only [goK]
      refine TW.gen (fun m => m.get g2.nx = some (.cells q0k [(Sl.of (p.types.list.map q5j)).av LType.cells, fv]) ∧ Wid g2 m ∧ m.nx = g2.nx + 1) ⟨by simp [get_put], ((Wid.refl g2).new _).put (by simp) _, by simp⟩ fun m hm => ?_
      obtain ⟨hm, hwm, hnm⟩ := hm
      dsimp only [q0k] at hm
      have hm1 : m.get 1 = _ := hwm.at (hw2.at hk1 (by omega)) (by have := hw2.nx; omega)
      obtain ⟨S, rows, ho, hrows, hS, hout, hrd⟩ := hfv.wid hwm
      have hrl := hrd.len
      simp at hrl
      have hfl : f < p.funcs.list.length := (List.getElem?_eq_some_iff.1 hf).1
      rcases ho with ⟨_, rfl⟩ | ⟨hne', r, hr1, hr2, rfl, hgr⟩
      · simp at hrl; rw [hrl] at hfl; simp at hfl
      obtain ⟨rowf, hrf⟩ := q0g (l := rows) (i := f) (by omega)
      have hw3 := hw2.nx
      have hrow2 : ∃ a b, rowf = [a, b] := by
        have := hrows rowf (List.mem_of_getElem? hrf)
        match rowf, this with
        | [a, b], _ => exact ⟨a, b, rfl⟩
      obtain ⟨ra, rb, rfl⟩ := hrow2
      have hfx : ((p.funcs.list.map q4y).map LFunc.cells)[f]? = some (q4y x).cells := by rw [List.getElem?_map, List.getElem?_map, hf]; rfl
      have hra : RdF S m 4 ra (.int .i64 x.sig) := by
        intro g' hg'
        have h1 := hrd g' hg'
        have h2 : mapO (frzV 4 g') [ra, rb] = some (q4y x).cells := by
          obtain ⟨h3, h4⟩ := q6v h1
          obtain ⟨y, hy1, hy2⟩ := h4 f _ hfx
          rw [hrf] at hy1
          cases hy1
          exact hy2
        unfold mapO at h2
        split at h2
        case h_2 => cases h2
        rename_i a' ha'
        split at h2
        case h_2 => cases h2
        cases h2
        exact ha'
      have hSt := q6p (C := Ctx.of Tryz.prog gl K) (v := (Sl.of (q6e p x gone.list)).av LBlock.cells) (o := 1) hgr hrows hrf (q7y _) (q8U _) (by omega)
      dsimp only [q0R] at hSt
      have hne : ¬ r = g2.nx := by have := (hfv.wid hwm); rcases hfv.cases with h | ⟨r', n', h1, h2, h3⟩; · cases h
                                   cases h3; omega
      have hr1' : ¬ r = 1 := by omega
      refine TW.seq (TW.regG hP (by simp [hm, hSt, -storeAt, sz1, (show f < rows.length by omega)] <;> rfl) ?_)
      dsimp only [goK, q0a, q0f, q0d]
      generalize hv2 : ([ra, rb].set 1 ((Sl.of (q6e p x gone.list)).av LBlock.cells)) = row2
      have hrow2 : row2 = [ra, (Sl.of (q6e p x gone.list)).av LBlock.cells] := by rw [← hv2]; rfl
      refine TW.gen (fun k => k.get g2.nx = some (.cells q0k [(Sl.of (p.types.list.map q5j)).av LType.cells, .sl r 0 rows.length rows.length 2 false]) ∧ k.get 1 = some (.cells q0k [.nilsl, .nilsl]) ∧ k.get r = some (.cells q0R (rows.set f row2).flatten) ∧ ∀ s, S s → k.get s = m.get s) ⟨?_, ?_, ?_, ?_⟩ fun k3 hk3 => ?_
      · rw [get_put, if_neg hne]; exact hm
      · rw [get_put, if_neg hr1']; exact hm1
      · rw [get_put, if_pos rfl, hrow2]
      · intro s hs
        rw [get_put, if_neg (fun e : r = s => hout r _ _ _ _ _ rfl (by rw [e]; exact hs))]
      obtain ⟨g1, g3, g4, g5⟩ := hk3
      dsimp only [q0k] at g1 g3
      repeat' first | refine TW.seq ?_ | (refine TW.regG hP (by simp [g1, g3] <;> rfl) ?_; dsimp only [goK]) | simp only [q0a]
      refine TW.ret ⟨.inr rfl, _, [.agg [(Sl.of (p.types.list.map q5j)).av LType.cells, .sl r 0 rows.length rows.length 2 false]], rfl, by simp [resK, get_put], ?_⟩
      dsimp only [q0h]
      have hset : RdR S m 4 (rows.set f row2) (((p.funcs.list.map q4y).set f { sig := x.sig, blocks := .of (q6e p x gone.list) }).map LFunc.cells) := by
        rw [List.map_set]
        refine hrd.set ?_
        rw [hrow2]
        exact .cons hra (.cons (fun _ _ => q6R q9x _) .nil)
      have hown : Own 2 q0R 0 ⟨r + 1, (k3.put 1 (.cells 25 [(Sl.of (p.types.list.map q5j)).av LType.cells, .sl r 0 rows.length rows.length 2 false])).m, 0⟩ (.sl r 0 rows.length rows.length 2 false) (rows.set f row2) := .inr ⟨by simpa using hne', r, Nat.zero_le _, Nat.lt_succ_self _, by simp, by
        show (k3.put 1 _).get r = _
        rw [get_put, if_neg (Ne.symm hr1')]; exact g4⟩
      have hfz := hown.rd' (q2u hrows (by rw [hrow2]; rfl)) (k := 4) (hset ⟨r + 1, (k3.put 1 (.cells 25 [(Sl.of (p.types.list.map q5j)).av LType.cells, .sl r 0 rows.length rows.length 2 false])).m, 0⟩ fun s hs => by
        show (k3.put 1 _).get s = _
        have := hS s hs
        rw [get_put, if_neg (by omega)]; exact g5 s hs)
      have hfz1 : frzV 5 (k3.put 1 (.cells 25 [(Sl.of (p.types.list.map q5j)).av LType.cells, .sl r 0 rows.length rows.length 2 false])) (.sl r 0 rows.length rows.length 2 false) = _ := (frz_m (g := ⟨r + 1, (k3.put 1 (.cells 25 [(Sl.of (p.types.list.map q5j)).av LType.cells, .sl r 0 rows.length rows.length 2 false])).m, 0⟩) rfl 5 _).trans hfz
      have hfz2 : frzV 5 (k3.put 1 (.cells 25 [(Sl.of (p.types.list.map q5j)).av LType.cells, .sl r 0 rows.length rows.length 2 false])) (.sl r 0 rows.length rows.length 2 false) = some ((q7P p f x gone.list).funcs.av LFunc.cells) := by
        rw [hfz1]
        rw [q5C]
        rfl
      rw [frzV]
      simp only [mapO, q6R q7d, hfz2]
      rfl
end Go.Ax
