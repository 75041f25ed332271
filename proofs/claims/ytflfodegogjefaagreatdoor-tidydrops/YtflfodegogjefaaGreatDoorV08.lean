import Derived.Test.YtflfodegogjefaaGreatDoorV07
set_option linter.unusedSimpArgs false
set_option linter.unusedVariables false
set_option maxRecDepth 20000
noncomputable section
namespace Go.Ax
open Go.Proofs
attribute [local irreducible] TW TO CallsT q0y
variable {F : Nat → Option Obj} {gl : Nat → AV} {K : Knob} {S S' : Nat → Prop} {X : Type}
def tJ (f : LIns → LIns) (n : Nat) (b : LBlock) : LBlock := { ins := .mk ((b.ins.list.take n).map f ++ b.ins.list.drop n), ed := b.ed }
def curL (f : LIns → LIns) (bl : List LBlock) (k j : Nat) : List LBlock := bl.mapIdx fun i b => tJ f (if i < k then b.ins.list.length else if i = k then j else 0) b
theorem curL_len {f : LIns → LIns} {bl : List LBlock} {k j : Nat} : (curL f bl k j).length = bl.length := by simp [curL]
theorem curL_get {f : LIns → LIns} {bl : List LBlock} {k j : Nat} {b : LBlock} (h : bl[k]? = some b) : (curL f bl k j)[k]? = some (tJ f j b) := by
 unfold curL
 rw [List.getElem?_mapIdx, h]
 simp
theorem curL_set {f : LIns → LIns} {bl : List LBlock} {k j j' : Nat} {b : LBlock} (h : bl[k]? = some b) : (curL f bl k j).set k (tJ f j' b) = curL f bl k j' := by
 refine List.ext_getElem? fun i => ?_
 rw [List.getElem?_set]
 have hk := (List.getElem?_eq_some_iff.1 h).1
 by_cases e : k = i
 ·subst e
  rw [if_pos rfl, if_pos (by rw [curL_len]; exact hk), curL_get h]
 ·rw [if_neg e]
  unfold curL
  rw [List.getElem?_mapIdx, List.getElem?_mapIdx]
  simp [show ¬ i = k from fun h => e h.symm]
theorem curL_next {f : LIns → LIns} {bl : List LBlock} {k : Nat} {b : LBlock} (h : bl[k]? = some b) : curL f bl k b.ins.list.length = curL f bl (k + 1) 0 := by
  refine List.ext_getElem? fun i => ?_
  unfold curL
  rw [List.getElem?_mapIdx, List.getElem?_mapIdx]
  by_cases e : i = k
  · subst e
    rw [h]
    simp
  · cases hb : bl[i]? with
    | none => rfl
    | some c =>
      simp only [Option.map_some]
      by_cases h1 : i < k
      · rw [if_pos h1, if_pos (by omega)]
      · rw [if_neg h1, if_neg e, if_neg (by omega)]
        split <;> rfl
theorem curL_end {f : LIns → LIns} {bl : List LBlock} : curL f bl bl.length 0 = bl.map fun b => tJ f b.ins.list.length b := by
  refine List.ext_getElem? fun i => ?_
  unfold curL
  rw [List.getElem?_mapIdx, List.getElem?_map]
  cases hb : bl[i]? with
  | none => rfl
  | some c =>
    have := (List.getElem?_eq_some_iff.1 hb).1
    simp [this]
theorem curL_start {f : LIns → LIns} {bl : List LBlock} : curL f bl 0 0 = bl.map (tJ f 0) := by
 refine List.ext_getElem? fun i => ?_
 unfold curL
 rw [List.getElem?_mapIdx, List.getElem?_map]
 simp
theorem rows_same {es : Nat} {r1 r2 : List (List AV)} (h1 : q3l es r1) (h2 : q3l es r2) (he : 0 < es) (h : r1.flatten = r2.flatten) {i : Nat} {a b : List AV} (ha : r1[i]? = some a) (hb : r2[i]? = some b) : a = b := by
 have s1 := flat_sub (o := 0) (k := es) h1 ha (by omega)
 have s2 := flat_sub (o := 0) (k := es) h2 hb (by omega)
 rw [h, s2] at s1
 have l1 := h1 a (List.mem_of_getElem? ha)
 have l2 := h2 b (List.mem_of_getElem? hb)
 simp only [List.drop_zero, List.take_of_length_le (Nat.le_of_eq l1), List.take_of_length_le (Nat.le_of_eq l2)] at s1
 exact (Option.some.inj s1).symm
def q8G (T : Int → Int) (e : LEnd) : LEnd := { e with a := if e.kind = 2 ∨ e.kind = 3 then T e.a else e.a }
def q7c (T : Int → Int) (b : LBlock) : LBlock := { ins := .mk (b.ins.list.map (q4c T)), ed := q8G T b.ed }
structure RdB (Rd : Int → Prop) (b : LBlock) : Prop where
 ins : ∀ x ∈ b.ins.list, RdX Rd x
 ed : b.ed.kind = 2 ∨ b.ed.kind = 3 → Rd b.ed.a
set_option maxHeartbeats 4000000 in
theorem turn_mem (hP : POk Tryz.prog F gl K) (hX : ∀ f a, K.ext f a = none) (hG : gl q1n = .iptr [q1s] 0 0) {tf : FuncId} {caps : List AV} {T : Int → Int} {Rd : Int → Prop} (hto : ToFn F tf caps T Rd) (hcell : cellsOf (.fn (.func tf) [] caps) = some [.fn (.func tf) [] caps]) (q : Nat) (params : Int) (bv : AV) (bl : List LBlock) (Sb : Nat → Prop) (h : Hp)
  (hp0 : 0 ≤ params) (hp1 : params + q0q bl < 1000000000) (hnb : bl.length < 1000000) (hq : h.get q = some (.cells 69 [.int .i64 params, bv])) (hqn : q < h.nx) (hqS : ¬ Sb q) (hB : SlO AnyF (BlkO AnyF) 5 q0s bv bl h Sb) (hSb : ∀ s, Sb s → s < h.nx) (hr : ∀ b ∈ bl, RdB Rd b) :
  CallsT Tryz.prog F h (fun _ g => h.nx ≤ g.nx ∧ (∀ s, s < h.nx → ¬ Sb s → g.get s = h.get s) ∧ SlO AnyF (BlkO AnyF) 5 q0s bv (bl.map (q7c T)) g Sb) q3L [.ptr q 0, .fn (.func tf) [] caps] := by
 refine CallsT.body hP q0e q9O rfl rfl ?_
 obtain ⟨z1, z2, z3, z4⟩ := hB.len
 refine TW.seq (TW.regG hP (by simp [hcell] <;> rfl) ?_)
 dsimp only [goK, q0a, q0f, q0d]
 refine TW.gen (fun g => g.get h.nx = some (.cells 77 [.fn (.func tf) [] caps]) ∧ Wid h g ∧ h.nx < g.nx) ⟨by simp, (Wid.refl h).new _, by simp⟩ fun g hg => ?_
 obtain ⟨g1, hw, hn⟩ := hg
 have hmono := q3h bl
 have hb0 := SlO.locl BlkO.locl _ g _ Sb hB (fun _ h => h) (q5P hw hSb)
 have hst : SlO AnyF (BlkO AnyF) 5 q0s bv (curL (q4c T) bl 0 0) g Sb := by
  rw [curL_start]
  exact hb0.conv fun b _ row h S ⟨u, h1, h2⟩ => ⟨u, h1, by simpa [tJ, Sl.list] using h2⟩
 refine TW.seq (TW.regG hP (by simp <;> rfl) ?_)
 dsimp only [goK, q0a, q0f, q0d]
 refine TO.ccall hP q3R (each_mem hP q params bv bl q2o [.ptr h.nx 0] q8v (fun k j m => h.nx < m.nx ∧ m.get h.nx = some (.cells 77 [.fn (.func tf) [] caps]) ∧ (∀ s, s < h.nx → ¬ Sb s → m.get s = h.get s) ∧ SlO AnyF (BlkO AnyF) 5 q0s bv (curL (q4c T) bl k j) m Sb) hp0 hp1 hnb ?_ ?_ ?_ ?_ g ⟨hn, g1, fun s h1 _ => hw.get s h1, hst⟩) (by simp) rfl rfl rfl rfl (fun v m hm => ?_)
 ·rintro k j m ⟨w1, w2, w3, w4⟩
  exact ⟨(w3 q hqn hqS).trans hq, z1, z2⟩
 ·rintro k j m b ⟨w1, w2, w3, w4⟩ hb
  have := BlkO.at w4 (curL_get (f := q4c T) (j := j) hb)
  rw [curL_len] at this
  have e : (tJ (q4c T) j b).ins.list.length = b.ins.list.length := z0x
  rwa [e] at this
 ·rintro k j m b rb fb rowsb e qi fi ⟨w1, w2, w3, w4⟩ hb hj B
  obtain ⟨x, hx⟩ := q0g hj
  have hbm := hr b (List.mem_of_getElem? hb)
  obtain ⟨fx, r, rows, row, Si, hv, hrS, hgr, hrows, hri, hrl, hSi, ⟨u, rfl, hI⟩, wand⟩ := w4.at BlkO.locl (curL_get (f := q4c T) (j := j) hb)
  have hbv := B.bv
  rw [curL_len] at hv
  rw [hv] at hbv
  cases hbv
  have hfl : rows.flatten = rowsb.flatten := by have := B.get; rw [hgr] at this; exact (AObj.cells.inj (Option.some.inj this)).2
  have hru := rows_same hrows B.rows (by omega) hfl hri B.row
  obtain ⟨rfl, hee⟩ := List.cons.inj hru
  obtain ⟨fi', qi', rows2, row2, Sj, hv2, hq2, hg2, hrows2, hri2, hrl2, hSj, hI2, wand2⟩ := hI.at InsO.locl (show (tJ (q4c T) j b).ins.list[j]? = some x from z0y hx)
  have e2 : (tJ (q4c T) j b).ins.list.length = b.ins.list.length := z0x
  rw [e2] at hv2
  cases hv2
  have hSjb : ∀ s, Sj s → Sb s ∧ s ≠ qi ∧ s ≠ rb ∧ s < h.nx := fun s hs => ⟨(hSi s (hSj s hs).1).1, (hSj s hs).2, (hSi s (hSj s hs).1).2, hSb s (hSi s (hSj s hs).1).1⟩
  have hqi := hSb qi (hSi qi hq2).1
  refine (turn1_mem hP hX hG hto h.nx qi j _ rows2 row2 x Sj m w2 hg2 hrows2 hri2 hI2 (fun s hs => ⟨(hSjb s hs).2.1, by have := hSjb s hs; omega, by have := hSjb s hs; omega⟩) (by omega) w1 (by omega) (hbm.ins x (List.mem_of_getElem? hx))).mono fun _ m' ⟨row', p1, p2, p3, p4, p5⟩ => ?_
  have ag : ∀ s, s < h.nx → ¬ Si s → m'.get s = m.get s := fun s h1 h2 => p5 s (by omega) (fun e => h2 (e ▸ hq2)) fun h3 => h2 (hSj s h3).1
  have hin := wand2 m' Sj (q4c T x) row' p1 p2 (fun s h1 h2 h3 => p5 s (by have := hSb s (hSi s h1).1; omega) h3 h2) (fun s hs => .inl hs) p3 Si (fun s hs => hs) (fun s hs => (hSj s hs).1)
  refine ⟨by omega, (p5 _ w1 (by omega) fun h3 => by have := hSjb _ h3; omega).trans w2, fun s h1 h2 => (ag s h1 fun h3 => h2 (hSi s h3).1).trans (w3 s h1 h2), ?_⟩
  rw [← curL_set (j := j) (j' := j + 1) hb]
  refine wand m' Si (tJ (q4c T) (j + 1) b) (.sl qi 0 b.ins.list.length b.ins.list.length 7 fi :: (tJ (q4c T) j b).ed.cells) rfl ?_ (fun s h1 h2 h3 => ag s (hSb s h1) h2) (fun s hs => .inl hs) ⟨_, rfl, ?_⟩ Sb (fun s hs => hs) (fun s hs => (hSi s hs).1)
  ·rw [q5A hri]
   exact (ag rb (hSb rb hrS) fun h3 => (hSi rb h3).2 rfl).trans hgr
  ·have e3 : (tJ (q4c T) (j + 1) b).ins.list = (tJ (q4c T) j b).ins.list.set j (q4c T x) := (z0w hx).symm
   rw [e3]; exact hin
 ·rintro k b m hb ⟨w1, w2, w3, w4⟩
  exact ⟨w1, w2, w3, by rw [← curL_next hb]; exact w4⟩
 obtain ⟨w1, w2, w3, w4⟩ := hm
 rw [curL_end] at w4
 refine TO.runsG hP (by simp <;> rfl) ?_
 try dsimp only [goK]
 have hlT : ∀ b ∈ bl.map (fun b => tJ (q4c T) b.ins.list.length b), b.ed.kind = 2 ∨ b.ed.kind = 3 → Rd b.ed.a := fun b hb => by
  obtain ⟨c, hc, rfl⟩ := List.mem_map.1 hb
  exact (hr c hc).ed
 have hlen2 : (bl.map (fun b => tJ (q4c T) b.ins.list.length b)).length = bl.length := List.length_map ..
 have hfin : (bl.map (fun b => tJ (q4c T) b.ins.list.length b)).map (fun b => { b with ed := q8G T b.ed }) = bl.map (q7c T) := by
  rw [List.map_map]
  refine List.map_congr_left fun b _ => ?_
  show ({ ins := .mk ((b.ins.list.take b.ins.list.length).map (q4c T) ++ b.ins.list.drop b.ins.list.length), ed := q8G T b.ed } : LBlock) = q7c T b
  rw [mapTake_all]; rfl
 rw [← hfin]
 generalize bl.map (fun b => tJ (q4c T) b.ins.list.length b) = bT at w4 hlT hlen2
 clear hfin hst hb0 hB hr
 have hqm : m.get q = _ := (w3 q hqn hqS).trans hq
 have hlv := fun h => q3F (C := Ctx.of Tryz.prog gl K) (t := q1D) (h := h) z1 z2
 dsimp only [q1D] at hlv
 dsimp only [q0a]
 repeat' first | refine TW.seq ?_ | refine TW.block ?_ | (refine TW.regG hP (by simp [hqm, hlv] <;> rfl) ?_; dsimp only [goK])
 refine TW.loopL (fun i : Nat => [(0, .ptr q 0), (3, .ptr h.nx 0), (13, .int .i64 bl.length), (14, .int .i64 i)]) (fun i m => i ≤ bl.length ∧ h.nx < m.nx ∧ m.get h.nx = some (.cells 77 [.fn (.func tf) [] caps]) ∧ (∀ s, s < h.nx → ¬ Sb s → m.get s = h.get s) ∧ SlO AnyF (BlkO AnyF) 5 q0s bv ((bT.take i).map (fun b => { b with ed := q8G T b.ed }) ++ bT.drop i) m Sb) (fun i => bl.length - i) (0) ?_ ?_ ?_
 focus (repeat' first | exact q0c | refine q0b (by simp) ?_)
 ·exact ⟨Nat.zero_le _, w1, w2, w3, by simpa using w4⟩
 clear w1 w2 w3 w4 hqm hlv m
 rintro i m ⟨hi, w1, w2, w3, w4⟩
 have hqm : m.get q = _ := (w3 q hqn hqS).trans hq
 repeat' first | refine TW.seq ?_ | (refine TW.regG hP (by simp <;> rfl) ?_; dsimp only [goK])
 refine TW.cond hP rfl (fun hc => TW.skip ?_) (fun hc => TW.exit ?_)
 ·simp at hc
  obtain ⟨b, hb⟩ := q0g (l := bT) (i := i) (by omega)
  obtain ⟨fx, r, rows, row, Si, hv, hrS, hgr, hrows, hri, hrl, hSi, ⟨u, rfl, hI⟩, wand⟩ := w4.at BlkO.locl (z0y hb)
  rw [z0x, hlen2] at hv
  subst hv
  have hrn := hSb r hrS
  have hqr : ¬ q = r := fun e => hqS (e ▸ hrS)
  have hL2 := fun t o => q2n (C := Ctx.of Tryz.prog gl K) (t := t) (o := o) hgr hrows hri
  have e1 := Ends_pure hP b.ed
  have fin : ∀ m6 : Hp, m6.nx = m.nx → m6.get r = some (.cells q0s (rows.set i (u :: (q8G T b.ed).cells)).flatten) → (∀ s, s ≠ r → m6.get s = m.get s) → h.nx < m6.nx ∧ m6.get h.nx = some (.cells 77 [.fn (.func tf) [] caps]) ∧ (∀ s, s < h.nx → ¬ Sb s → m6.get s = h.get s) ∧ SlO AnyF (BlkO AnyF) 5 q0s (.sl r 0 bl.length bl.length 5 fx) ((bT.take (i + 1)).map (fun b => { b with ed := q8G T b.ed }) ++ bT.drop (i + 1)) m6 Sb := fun m6 h1 h2 h3 => by
   refine ⟨by omega, (h3 _ (by omega)).trans w2, fun s g1 g2 => (h3 s fun e => g2 (e ▸ hrS)).trans (w3 s g1 g2), ?_⟩
   rw [← z0w (f := fun b => { b with ed := q8G T b.ed }) hb]
   refine wand m6 Si { b with ed := q8G T b.ed } (u :: (q8G T b.ed).cells) rfl h2 (fun s g1 g2 g3 => h3 s g3) (fun s hs => .inl hs) ⟨u, rfl, SlO.locl InsO.locl _ _ _ _ hI (fun _ h => h) fun s hs => h3 s (hSi s hs).2⟩ Sb (fun s hs => hs) (fun s hs => (hSi s hs).1)
  dsimp only [q0a]
  by_cases hk : b.ed.kind = 2 ∨ b.ed.kind = 3
  ·simp only [q2g, if_pos hk, slOf, List.map_cons, List.map_nil, LEnd.cells, cI] at e1
   have ea := hto.pure b.ed.a (hlT b (List.mem_of_getElem? hb) hk)
   repeat' first | refine TW.seq ?_ | refine TW.block ?_ | refine TW.condT hP rfl ?_ | (refine TW.regG hP (by simp [hqm, hL2, q0L, q1h, hc] <;> rfl) ?_; dsimp only [goK]) | (refine TO.scall hP I_shape_Ends (e1) ?_ rfl rfl rfl rfl ?_; (focus (simp; done)); refine TO.runsG hP (by simp <;> rfl) ?_; dsimp only [goK])
   obtain ⟨fn, hfn, hfb⟩ := hto.fn
   have hG2 := fun (gl : Nat → AV) (K : Knob) => (q5K (P := Tryz.prog) (gl := gl) (K := K)).trans hfn
   have hL3 := fun t o => q2n (h := m.up) (C := Ctx.of Tryz.prog gl (K.tell [(tf, .int .i64 b.ed.a :: caps, .int .i64 (T b.ed.a))])) (t := t) (o := o) (by rw [q2K]; exact hgr) hrows hri
   have hSt := q6p (h := m.up) (C := Ctx.of Tryz.prog gl (K.tell [(tf, .int .i64 b.ed.a :: caps, .int .i64 (T b.ed.a))])) (v := .int .i64 (T b.ed.a)) (o := 2) (by rw [q2K]; exact hgr) hrows hri rfl rfl (by omega)
   dsimp only [q0s, LEnd.cells] at hSt hL3
   try refine TW.seq ?_
   refine TW.drawH hP [(tf, (AV.int .i64 b.ed.a :: caps), .int .i64 (T b.ed.a))] (fun e he => by rcases List.mem_cons.1 he with rfl | he; exact ea; cases he) [0, 0, 0, 4, 12, 28, 62, 127, 255, 511] (by kernel_rfl) (by kernel_rfl) (by simp [hX, w2, hL3, q0L, q1h, hSt, -storeAt, sz1, hG2, hfb, Nat.add_assoc, (show ¬ m.nx ≤ r by omega), (show ¬ r = h.nx by omega), oneD, fpAt, fpOf, q0v, ldOf, q0T, q0m, FP.clash, FP.hard, FP.soft, overlap, inR, q0A, q1T, Nat.testBit] <;> rfl) ?_
   repeat' (refine q1A (fun hb => ?_) (fun hb => ?_) <;> (try simp only [Bool.not_eq_eq_eq_not, Bool.not_true, Bool.not_false] at hb) <;> refine q4H (by simp [hb, hX, w2, hL3, q0L, q1h, hSt, -storeAt, sz1, hG2, hfb, hc, Nat.add_assoc, (show ¬ m.nx ≤ h.nx by omega), (show ¬ m.nx ≤ r by omega), (show ¬ r = h.nx by omega), (show ¬ h.nx = r by omega), oneD, fpAt, fpOf, q0v, ldOf, q0T, q0m, FP.clash, FP.hard, FP.soft, overlap, inR, q0A, q1T, Nat.testBit, show ¬ m.nx + 1 ≤ m.nx by omega, show ¬ m.nx + 2 ≤ m.nx by omega, show ¬ m.nx + 2 ≤ m.nx + 1 by omega, show ¬ m.nx + 3 ≤ m.nx by omega, show ¬ m.nx + 3 ≤ m.nx + 1 by omega, show ¬ m.nx + 3 ≤ m.nx + 2 by omega] <;> rfl) ?_)
   all_goals dsimp only [okD, q0a]
   repeat' first | (refine TW.regG hP (by simp <;> rfl) ?_; dsimp only [goK]) | simp only [q0d]
   refine ⟨i + 1, by omega, trivial, ?_, by omega, fin _ (by rw [nx_z, nx_put]) ?_ fun s hs => by rw [q1F, get_put, if_neg (Ne.symm hs)]⟩
   ·repeat' first | exact q0c | refine q0b (by simp [w64s (show i < 9000000000000000000 by omega)]) ?_
   ·rw [q1F, get_put, if_pos rfl]
    simp [q8G, hk, LEnd.cells]
  ·simp only [q2g, if_neg hk, slOf, LEnd.cells] at e1
   repeat' first | refine TW.seq ?_ | refine TW.block ?_ | refine TW.skip ?_ | refine TW.condF hP rfl ?_ | (refine TW.regG hP (by simp [hqm, hL2, q0L, q1h, hc] <;> rfl) ?_; dsimp only [goK]) | (refine TO.scall hP I_shape_Ends (e1) ?_ rfl rfl rfl rfl ?_; (focus (simp; done)); refine TO.runsG hP (by simp <;> rfl) ?_; dsimp only [goK]) | simp only [q0d]
   refine ⟨i + 1, by omega, trivial, ?_, by omega, fin _ rfl ?_ fun _ _ => rfl⟩
   ·repeat' first | exact q0c | refine q0b (by simp [w64s (show i < 9000000000000000000 by omega)]) ?_
   ·have e : q8G T b.ed = b.ed := by unfold q8G; rw [if_neg hk]
    rw [e, q5A hri]; exact hgr
 ·simp at hc
  have hi2 : i = bT.length := by omega
  subst hi2
  rw [mapTake_all] at w4
  dsimp only [q0a]
  repeat' first | simp only [q0f, q0d, ↓reduceIte]
  exact ⟨.inl rfl, m, [], rfl, rfl, by omega, w3, w4⟩
theorem IntO.src {v : AV} {l : List Int} {h : Hp} (H : IntO OffF v l h S) : q1e h 1 l.length v = some (l.map (.int .i64)) := by
 rcases H with ⟨rfl, H⟩ | ⟨r, x, _, hn, rfl, h3, h4⟩
 ·rw [H.off]; rfl
 ·unfold q1e
  simp [h4, sub]
  exact List.take_of_length_le (by simp)
theorem all_ints (l : List Int) : ((l.map cI).flatten).all q0P = true := by rw [q7M]; simp [q0P]
set_option maxHeartbeats 4000000 in
theorem reads1_mem (hP : POk Tryz.prog F gl K) (hX : ∀ f a, K.ext f a = none) (hG : gl q1n = .iptr [q1s] 0 0) (r : Int) (q j cw ca b : Nat) (ls : Sl Int) (acc : List Int) (v : AV) (rows : List (List AV)) (row : List AV) (x : LIns) (Sj : Nat → Prop) (g : Hp)
    (hlen : ls.list.length < 1000000) (hcw : g.get cw = some (.cells 26 [ls.av cI])) (hca : g.get ca = some (.cells 26 [v])) (hown : Own 1 3 b g v (acc.map cI)) (hbn : b ≤ g.nx) (hcwb : cw < b) (hcab : ca < b) (hqb : q < b) (hne : cw ≠ ca) (hqa : q ≠ ca)
    (hq : g.get q = some (.cells q0M rows.flatten)) (hrows : q3l 7 rows) (hrj : rows[j]? = some row) (hI : InsO OffF x row g Sj) (hop : 0 ≤ x.op ∧ x.op < 256) (hxl : x.args.list.length < 900000) (hac : acc.length + (q2f x).length ≤ 1000000) :
    CallsT Tryz.prog F g (fun _ m => g.nx ≤ m.nx ∧ (∃ v', m.get ca = some (.cells 26 [v']) ∧ Own 1 3 b m v' ((acc ++ if (ls.list.any fun y => decide (r = y)) = true then [] else q2f x).map cI)) ∧ ∀ s, s < b → s ≠ ca → m.get s = g.get s) q2b [.int .i64 r, .ptr q (j * 7), .ptr cw 0, .ptr ca 0] := by
  refine CallsT.body hP q0e q8m rfl rfl ?_
  by_cases hc : (ls.list.any fun y => decide (r = y)) = true
  · have e1 := q6m hP ls r hlen
    rw [hc] at e1
    repeat' first | refine TW.seq ?_ | refine TW.skip ?_ | refine TW.condF hP rfl ?_ | (refine TW.regG hP (by simp [hcw] <;> rfl) ?_; dsimp only [goK]) | (refine TO.scall hP q1o (e1) ?_ rfl rfl rfl rfl ?_; (focus (simp; done)); refine TO.runsG hP (by simp <;> rfl) ?_; dsimp only [goK])
    rw [if_pos hc, List.append_nil]
    exact ⟨.inl rfl, g, [], rfl, rfl, Nat.le_refl _, ⟨v, hca, hown⟩, fun _ _ _ => rfl⟩
  · have e1 := q6m hP ls r hlen
    rw [Bool.not_eq_true] at hc
    rw [hc] at e1
    repeat' first | refine TW.seq ?_ | refine TW.condT hP rfl ?_ | (refine TW.regG hP (by simp [hcw] <;> rfl) ?_; dsimp only [goK]) | (refine TO.scall hP q1o (e1) ?_ rfl rfl rfl rfl ?_; (focus (simp; done)); refine TO.runsG hP (by simp <;> rfl) ?_; dsimp only [goK])
    rw [if_neg (by rw [hc]; simp)]
    refine TW.wf fun hwf => ?_
    have hrow : row.length = 7 := hI.len
    have hfr : mapO (frzV 20 g.up) [.agg row] = some [.agg (q3g x).cells] := by
      have := InsO.frz (h := g.up) (k := 17) (InsO.locl _ _ _ _ _ _ hI (fun _ h => h) fun s _ => by rw [q2K])
      simp only [mapO, this]
    obtain ⟨u, k, Su, a1, a2, a3, a4, a5, a6, l1, m1⟩ := IntO.lend (Uses_mem hP hG (q3g x) hop.1 hop.2 hxl) g.up hfr (by rw [up_lo, q2J]) (wf_up hwf)
    rw [q2J] at l1 m1
    rw [uses_asRead] at a1
    have c1 := q5r (gl := gl) (K := K) (f := q2e) (args := [.agg row]) (h := g.up) (v := u) (h1 := k)
    have o1 := q6t (gl := gl) (K := K) (f := q2e) (args := [.agg row]) (h := g.up) (v := u) (h1 := k)
    have hX' := fun f a => (show (Ctx.of Tryz.prog gl ((K.tellP q2e [.agg row] g.up u k).tell [])).ext f a = none from hX f a)
    have hL := fun t => q2i (h := g.up) (C := Ctx.of Tryz.prog gl ((K.tellP q2e [.agg row] g.up u k).tell [])) (t := t) (by rw [q2K]; exact hq) hrows hrj
    obtain ⟨d0, _, d1, d2⟩ := a1.len
    have nk := (q1G a2).nx
    have hkca : k.get ca = _ := ((q1G a2).get ca (by omega)).trans hca
    have hownk : Own 1 3 b k.up v (acc.map cI) := hown.same (by rw [q2J]; exact nk) fun s h1 h2 => by rw [q2K]; exact (q1G a2).get s h2
    obtain ⟨v', h', happ, hown', hwb⟩ := Own.more (C := Ctx.of Tryz.prog gl ((K.tellP q2e [.agg row] g.up u k).tell [])) (t := q0u) (xt := q0u) (x := u) (rows' := (q2f x).map cI) q0Q q3W hownk q1a d0 (List.length_map ..) (by rw [q7M]; exact IntO.src (IntO.locl _ _ _ _ a1 (fun _ h => h) fun s _ => by rw [q2K])) q1a (all_ints _) (by rw [List.length_map, List.length_map]; exact hac) (by rw [q2J]; omega)
    dsimp only [q0u] at happ
    obtain ⟨d3, d4⟩ := hown'.cell
    have hh : ∀ s, s < b → h'.get s = g.get s := fun s h1 => by rw [hwb.get s h1, q2K]; exact (q1G a2).get s (by omega)
    have hhca : h'.get ca = _ := (hh ca hcab).trans hca
    have hnh := hwb.nx
    rw [q2J] at hnh
    have fin : ∀ m : Hp, m = (h'.put ca (.cells 26 [v'])).z → g.nx ≤ m.nx ∧ (∃ v', m.get ca = some (.cells 26 [v']) ∧ Own 1 3 b m v' ((acc ++ q2f x).map cI)) ∧ ∀ s, s < b → s ≠ ca → m.get s = g.get s := fun m hm => by
      subst hm
      refine ⟨by rw [nx_z, nx_put]; omega, ⟨v', by rw [q1F, get_put, if_pos rfl], ?_⟩, fun s h1 h2 => by rw [q1F, get_put, if_neg (Ne.symm h2), hh s h1]⟩
      rw [List.map_append]
      exact hown'.same (by rw [nx_z, nx_put]; exact Nat.le_refl _) fun s h1 h2 => by rw [q1F, get_put, if_neg (by omega)]
    match row, hrow with
    | [r0, r1, r2, r3, r4, r5, r6], _ =>
    clear hownk hown' hwb hI hfr
    rcases hown with ⟨rfl, hz⟩ | ⟨hne', rv, hv1, hv2, rfl, hv3⟩ <;> rcases a1 with ⟨e0, H0⟩ | ⟨ru, xu, hfu, hnu, rfl, hru, hgu⟩
    all_goals try (have H1 := H0.off; subst H1)
    all_goals try simp only [List.length_map] at happ
    all_goals (
      have hkd : decide (k.nx < h'.nx) = true ∨ decide (k.nx < h'.nx) = false := by cases decide (k.nx < h'.nx) <;> simp
      rcases hkd with hkh | hkh
      all_goals (
        first
        | (refine TW.drawH (q4M hP a5 a6) [] (fun e he => by cases he) [0, 0, 2, 6, 14, 31, 63] (by kernel_rfl) (by kernel_rfl) (by simp [hX', c1, o1, hL, q0L, q1h, hca, hkca, hhca, happ, d3, d4, l1, hkh, (show ¬ g.nx ≤ q by omega), (show ¬ g.nx ≤ ca by omega), (show ¬ k.nx ≤ ca by omega), (show ¬ ca = q from fun h => hqa h.symm), q2e, G_shape_Uses, B_shape_Uses, oneD, fpAt, fpOf, q0v, ldOf, q0T, q0m, FP.clash, FP.hard, FP.soft, overlap, inR, q0A, q1T, Nat.testBit] <;> rfl) ?_
           dsimp only [okD, q0a]
           refine ⟨.inl rfl, _, [], rfl, rfl, fin _ rfl⟩)
        ))
def rdsI (ls : List Int) (r0 : Int) (y : LIns × Nat) : List Int := if (ls.any fun z => decide (r0 + y.2 = z)) = true then [] else q2f y.1
def rdsB (ls : List Int) (params : Int) (bl : List LBlock) (b : LBlock × Nat) : List Int := b.1.ins.list.zipIdx.flatMap (rdsI ls (params + q0q (bl.take b.2)))
def q9Y (ls : List Int) (params : Int) (bl : List LBlock) : List Int := bl.zipIdx.flatMap (rdsB ls params bl) ++ bl.flatMap fun b => q2g b.ed
def z1b (ls : List Int) (params : Int) (bl : List LBlock) (k j : Nat) : List Int := (bl.zipIdx.take k).flatMap (rdsB ls params bl) ++ (match bl[k]? with | some b => (b.ins.list.zipIdx.take j).flatMap (rdsI ls (params + q0q (bl.take k))) | none => [])
theorem q9a {Y : Type} {f : X → List Y} {l : List X} {i : Nat} {x : X} (h : l[i]? = some x) : (l.take (i + 1)).flatMap f = (l.take i).flatMap f ++ f x := by
 obtain ⟨h1, rfl⟩ := List.getElem?_eq_some_iff.1 h
 rw [List.take_succ_eq_append_getElem h1, List.flatMap_append]
 simp
theorem rdsTo_succ {ls : List Int} {params : Int} {bl : List LBlock} {k j : Nat} {b : LBlock} {x : LIns} (hb : bl[k]? = some b) (hx : b.ins.list[j]? = some x) : z1b ls params bl k (j + 1) = z1b ls params bl k j ++ rdsI ls (params + q0q (bl.take k)) (x, j) := by
 unfold z1b
 rw [hb]
 dsimp only
 rw [q9a (z0j hx), List.append_assoc]
theorem rdsTo_next {ls : List Int} {params : Int} {bl : List LBlock} {k : Nat} {b : LBlock} (hb : bl[k]? = some b) : z1b ls params bl k b.ins.list.length = z1b ls params bl (k + 1) 0 := by
 unfold z1b
 rw [hb]
 dsimp only
 rw [q9a (z0j hb), List.take_of_length_le (l := b.ins.list.zipIdx) (by simp)]
 have : (match bl[k + 1]? with | some b => (b.ins.list.zipIdx.take 0).flatMap (rdsI ls (params + q0q (bl.take (k + 1)))) | none => []) = [] := by
  cases bl[k + 1]? <;> rfl
 rw [this, List.append_nil]
 rfl
theorem rdsTo_end {ls : List Int} {params : Int} {bl : List LBlock} : z1b ls params bl bl.length 0 = bl.zipIdx.flatMap (rdsB ls params bl) := by
 unfold z1b
 rw [List.getElem?_eq_none (Nat.le_refl _), List.take_of_length_le (by simp)]
 simp
theorem uses6_le (y : LIns) : (q2f y).length ≤ y.args.list.length + 2 := by
 unfold q2f
 simp only [List.length_append]
 split <;> split <;> split <;> simp <;> omega
theorem endsS_le (e : LEnd) : (q2g e).length ≤ 1 := by
 unfold q2g
 split <;> simp
set_option maxHeartbeats 4000000 in
theorem reads_mem (hP : POk Tryz.prog F gl K) (hX : ∀ f a, K.ext f a = none) (hG : gl q1n = .iptr [q1s] 0 0) (q : Nat) (params : Int) (bv : AV) (bl : List LBlock) (Sb : Nat → Prop) (ls : Sl Int) (h : Hp) (hlen : ls.list.length < 1000000)
    (hp0 : 0 ≤ params) (hp1 : params + q0q bl < 1000000000) (hnb : bl.length < 1000) (hma : q0q bl < 40000) (hq : h.get q = some (.cells 69 [.int .i64 params, bv])) (hqn : q < h.nx) (hB : SlO AnyF (BlkO AnyF) 5 q0s bv bl h Sb) (hSb : ∀ s, Sb s → s < h.nx)
    (hop : ∀ b ∈ bl, ∀ x ∈ b.ins.list, (0 ≤ x.op ∧ x.op < 256) ∧ x.args.list.length ≤ 20) :
    CallsT Tryz.prog F h (fun v g => Wid h g ∧ Own 1 3 h.nx g v ((q9Y ls.list params bl).map cI)) q3p [.ptr q 0, ls.av cI] := by
  refine CallsT.body hP q0e q9n rfl rfl ?_
  obtain ⟨z1, z2, z3, z4⟩ := hB.len
  refine TW.seq (TW.regG hP (by simp <;> rfl) ?_)
  dsimp only [goK, q0a, q0f, q0d]
  refine TW.gen (fun g => g.get h.nx = some (.cells 26 [ls.av cI]) ∧ g.get (h.nx + 1) = some (.cells 26 [.nilsl]) ∧ Wid h g ∧ g.nx = h.nx + 2) ⟨by simp, by simp, ((Wid.refl h).new _).new _, by simp⟩ fun g hg => ?_
  obtain ⟨g1, g2, hw, hn⟩ := hg
  have hmono := q3h bl
  refine TW.seq (TW.regG hP (by simp <;> rfl) ?_)
  dsimp only [goK, q0a, q0f, q0d]
  refine TO.ccall hP q3R (each_mem hP q params bv bl q2b [.ptr h.nx 0, .ptr (h.nx + 1) 0] q8k (fun k j m => Wid h m ∧ h.nx + 2 ≤ m.nx ∧ m.get h.nx = some (.cells 26 [ls.av cI]) ∧ ((z1b ls.list params bl k j).length : Int) ≤ 22 * (q0q (bl.take k) + j) ∧ ∃ v, m.get (h.nx + 1) = some (.cells 26 [v]) ∧ Own 1 3 (h.nx + 2) m v ((z1b ls.list params bl k j).map cI)) hp0 hp1 (by omega) ?_ ?_ ?_ ?_ g ⟨hw, by omega, g1, ?_, .nilsl, g2, ?_⟩) (by simp) rfl rfl rfl rfl (fun v m hm => ?_)
  · rintro k j m ⟨w1, w2, w3, w4, w5⟩
    exact ⟨(w1.get q hqn).trans hq, z1, z2⟩
  · rintro k j m b ⟨w1, w2, w3, w4, w5⟩ hb
    exact BlkO.at (SlO.locl BlkO.locl _ _ _ _ hB (fun _ h => h) (q5P w1 hSb)) hb
  · rintro k j m b rb fb rowsb e qi fi ⟨w1, w2, w3, w4, v, w5, w6⟩ hb hj B
    obtain ⟨x, hx⟩ := q0g hj
    have hbm := hop b (List.mem_of_getElem? hb) x (List.mem_of_getElem? hx)
    have hB' := SlO.locl BlkO.locl _ m _ Sb hB (fun _ h => h) (q5P w1 hSb)
    obtain ⟨fx, r, rows, row, Si, hv, hrS, hgr, hrows, hri, hrl, hSi, ⟨u, rfl, hI⟩, wand⟩ := hB'.at BlkO.locl hb
    have hbv := B.bv
    rw [hv] at hbv
    cases hbv
    have hfl : rows.flatten = rowsb.flatten := by have := B.get; rw [hgr] at this; exact (AObj.cells.inj (Option.some.inj this)).2
    have hru := rows_same hrows B.rows (by omega) hfl hri B.row
    obtain ⟨rfl, hee⟩ := List.cons.inj hru
    obtain ⟨fi', qi', rows2, row2, Sj, hv2, hq2, hg2, hrows2, hri2, hrl2, hSj, hI2, wand2⟩ := hI.at InsO.locl hx
    cases hv2
    have hul := uses6_le x
    have ht := q2X hb
    have h1 := q0J (bl.take k)
    have h2 := q3h bl (k + 1)
    have hqi := hSb qi (hSi qi hq2).1
    refine (reads1_mem hP hX hG _ qi j h.nx (h.nx + 1) (h.nx + 2) ls _ v rows2 row2 x Sj m hlen w3 w5 w6 w2 (by omega) (by omega) (by omega) (by omega) (by omega) hg2 hrows2 hri2 hI2 hbm.1 (by omega) (by omega)).mono fun _ m' ⟨p1, ⟨v', p2, p3⟩, p4⟩ => ?_
    have hri := rdsTo_succ (ls := ls.list) (params := params) hb hx
    refine ⟨⟨by have := w1.nx; omega, fun s hs => (p4 s (by omega) (by omega)).trans (w1.get s hs)⟩, by omega, (p4 _ (by omega) (by omega)).trans w3, ?_, v', p2, by rw [hri]; exact p3⟩
    rw [hri, List.length_append]
    have : (rdsI ls.list (params + q0q (bl.take k)) (x, j)).length ≤ 22 := by
      unfold rdsI
      split <;> simp <;> omega
    omega
  · rintro k b m hb ⟨w1, w2, w3, w4, v, w5, w6⟩
    refine ⟨w1, w2, w3, ?_, v, w5, by rw [← rdsTo_next hb]; exact w6⟩
    rw [← rdsTo_next hb, q2X hb]
    simpa using w4
  · have : z1b ls.list params bl 0 0 = [] := by unfold z1b; cases bl[0]? <;> rfl
    rw [this]; simp [q0q]
  · have : z1b ls.list params bl 0 0 = [] := by unfold z1b; cases bl[0]? <;> rfl
    rw [this]; exact .nil
  obtain ⟨w1, w2, w3, w4, v2, w5, w6⟩ := hm
  rw [rdsTo_end] at w4 w6
  rw [List.take_of_length_le (Nat.le_refl _)] at w4
  refine TO.runsG hP (by simp <;> rfl) ?_
  try dsimp only [goK]
  have hqm : m.get q = _ := (w1.get q hqn).trans hq
  have hlv := fun h => q3F (C := Ctx.of Tryz.prog gl K) (t := q1D) (h := h) z1 z2
  dsimp only [q1D] at hlv
  unfold q9Y
  generalize bl.zipIdx.flatMap (rdsB ls.list params bl) = base at w4 w6
  dsimp only [q0a]
  repeat' first | refine TW.seq ?_ | refine TW.block ?_ | (refine TW.regG hP (by simp [hqm, hlv] <;> rfl) ?_; dsimp only [goK])
  refine TW.loopL (fun i : Nat => [(0, .ptr q 0), (3, .ptr h.nx 0), (4, .ptr (h.nx + 1) 0), (13, bv), (14, .int .i64 bl.length), (15, .int .i64 i)]) (fun i m => i ≤ bl.length ∧ Wid h m ∧ h.nx + 2 ≤ m.nx ∧ (base ++ (bl.take i).flatMap fun b => q2g b.ed).length ≤ base.length + i ∧ ∃ v, m.get (h.nx + 1) = some (.cells 26 [v]) ∧ Own 1 3 (h.nx + 2) m v ((base ++ (bl.take i).flatMap fun b => q2g b.ed).map cI)) (fun i => bl.length - i) (0) ?_ ?_ ?_
  focus (repeat' first | exact q0c | refine q0b (by simp) ?_)
  · exact ⟨Nat.zero_le _, w1, w2, by simp, v2, w5, by simpa using w6⟩
  clear w1 w2 w3 w5 w6 hqm hlv m
  rintro i m ⟨hi, w1, w2, wl, v, w5, w6⟩
  repeat' first | refine TW.seq ?_ | (refine TW.regG hP (by simp <;> rfl) ?_; dsimp only [goK])
  refine TW.cond hP rfl (fun hc => TW.skip ?_) (fun hc => TW.exit ?_)
  · simp at hc
    have hci := hc
    obtain ⟨acc, hacc⟩ : ∃ acc, acc = base ++ (bl.take i).flatMap fun b => q2g b.ed := ⟨_, rfl⟩
    rw [← hacc] at wl w6
    obtain ⟨b, hb⟩ := q0g hc
    have hB' := SlO.locl BlkO.locl _ m _ Sb hB (fun _ h => h) (q5P w1 hSb)
    obtain ⟨fx, r, rows, row, Si, hv, hrS, hgr, hrows, hri, hrl, hSi, ⟨u, rfl, hI⟩, wand⟩ := hB'.at BlkO.locl hb
    subst hv
    obtain ⟨_, _, y1, y2⟩ := hI.len
    have hL := fun t => q2i (C := Ctx.of Tryz.prog gl K) (t := t) hgr hrows hri
    dsimp only [LEnd.cells] at hL
    dsimp only [q0a]
    refine TW.seq ?_
    refine TW.block ?_
    refine TW.seq (TW.regG hP (by simp [hL, q0L, q1h, hc, y1] <;> rfl) ?_)
    dsimp only [goK, q0a, q0f, q0d]
    refine TW.gen (fun g => g.get m.nx = some (.cells q0s (u :: b.ed.cells)) ∧ Wid m g ∧ m.nx < g.nx) ⟨by simp [LEnd.cells], ((Wid.refl m).new _).put (by simp) _, by simp⟩ fun g hg => ?_
    obtain ⟨g1, hwg, hng⟩ := hg
    dsimp only [q0s, LEnd.cells] at g1
    have gca : g.get (h.nx + 1) = _ := (hwg.get _ (by omega)).trans w5
    have hown := w6.same (g := g) (by omega) fun s h1 h2 => hwg.get s h2
    refine TW.wf fun hwf => ?_
    obtain ⟨ev, k, Se, a1, a2, a3, a4, a5, a6, l1, m1⟩ := q7Q (B := fun v => IntO AnyF v (q2g b.ed)) ((Ends_mem hP b.ed .e).mono fun v g ⟨_, S, H⟩ => ⟨S, H⟩) (by simp [LEnd.cells, q1v]) (IntO.rig _) (IntO.ex _) (fun v => IntO.locl) g.up (by rw [up_lo, q2J]) (wf_up hwf)
    dsimp only [LEnd.cells] at a6
    rw [q2J] at l1 m1
    have c1 := q5r (gl := gl) (K := K) (f := q2w) (args := [.agg [.int .u8 b.ed.kind, .int .i64 b.ed.a, .int .i64 b.ed.to, .int .i64 b.ed.els]]) (h := g.up) (v := ev) (h1 := k)
    have o1 := q6t (gl := gl) (K := K) (f := q2w) (args := [.agg [.int .u8 b.ed.kind, .int .i64 b.ed.a, .int .i64 b.ed.to, .int .i64 b.ed.els]]) (h := g.up) (v := ev) (h1 := k)
    have hX' := fun f a => (show (Ctx.of Tryz.prog gl ((K.tellP q2w [.agg [.int .u8 b.ed.kind, .int .i64 b.ed.a, .int .i64 b.ed.to, .int .i64 b.ed.els]] g.up ev k).tell [])).ext f a = none from hX f a)
    obtain ⟨d0, _, d1, d2⟩ := a1.len
    have nk := (q1G a2).nx
    have kca : k.get (h.nx + 1) = _ := ((q1G a2).get _ (by omega)).trans gca
    have hownk : Own 1 3 (h.nx + 2) k.up v (acc.map cI) := hown.same (by rw [q2J]; exact nk) fun s h1 h2 => by rw [q2K]; exact (q1G a2).get s h2
    have hel := endsS_le b.ed
    obtain ⟨v', h', happ, hown', hwb⟩ := Own.more (C := Ctx.of Tryz.prog gl ((K.tellP q2w [.agg [.int .u8 b.ed.kind, .int .i64 b.ed.a, .int .i64 b.ed.to, .int .i64 b.ed.els]] g.up ev k).tell [])) (t := q0u) (xt := q0u) (x := ev) (rows' := (q2g b.ed).map cI) q0Q q3W hownk q1a d0 (List.length_map ..) (by rw [q7M]; exact IntO.src (IntO.locl _ _ _ _ a1 (fun _ h => h) fun s _ => by rw [q2K])) q1a (all_ints _) (by rw [List.length_map, List.length_map]; omega) (by rw [q2J]; omega)
    dsimp only [q0u] at happ
    obtain ⟨d3, d4⟩ := hown'.cell
    have hh : ∀ s, s < h.nx + 2 → h'.get s = g.get s := fun s h1 => by rw [hwb.get s h1, q2K]; exact (q1G a2).get s (by omega)
    have hhca : h'.get (h.nx + 1) = _ := (hh _ (by omega)).trans gca
    have hnh := hwb.nx
    rw [q2J] at hnh
    have hnxm := w1.nx
    have hfm := q9a (f := fun b : LBlock => q2g b.ed) hb
    have fin : ∀ m' : Hp, m' = (h'.put (h.nx + 1) (.cells 26 [v'])).z → Wid h m' ∧ h.nx + 2 ≤ m'.nx ∧ (base ++ (bl.take (i + 1)).flatMap fun b => q2g b.ed).length ≤ base.length + (i + 1) ∧ ∃ v, m'.get (h.nx + 1) = some (.cells 26 [v]) ∧ Own 1 3 (h.nx + 2) m' v ((base ++ (bl.take (i + 1)).flatMap fun b => q2g b.ed).map cI) := fun m' hm => by
      subst hm
      refine ⟨⟨by rw [nx_z, nx_put]; omega, fun s hs => by rw [q1F, get_put, if_neg (by omega), hh s (by omega), hwg.get s (by omega), w1.get s hs]⟩, by rw [nx_z, nx_put]; omega, ?_, v', by rw [q1F, get_put, if_pos rfl], ?_⟩
      · rw [hfm, ← List.append_assoc, ← hacc, List.length_append]
        omega
      · rw [hfm, ← List.append_assoc, ← hacc, List.map_append]
        exact hown'.same (by rw [nx_z, nx_put]; exact Nat.le_refl _) fun s h1 h2 => by rw [q1F, get_put, if_neg (by omega)]
    clear hownk hown' hwb
    rcases hown with ⟨rfl, hz⟩ | ⟨hne', rv, hv1, hv2, rfl, hv3⟩ <;> rcases a1 with ⟨e0, H0⟩ | ⟨ru, xu, hfu, hnu, rfl, hru, hgu⟩
    all_goals try (have H1 := H0.off; subst H1)
    all_goals try simp only [List.length_map] at happ
    all_goals (
      have hkd : decide (k.nx < h'.nx) = true ∨ decide (k.nx < h'.nx) = false := by cases decide (k.nx < h'.nx) <;> simp
      rcases hkd with hkh | hkh
      all_goals (
        refine TW.drawH (q4M hP a5 a6) [] (fun e he => by cases he) [0, 0, 2, 6, 15, 31] (by kernel_rfl) (by kernel_rfl) (by simp [hX', c1, o1, g1, gca, kca, hhca, happ, d3, d4, l1, hkh, (show ¬ g.nx ≤ m.nx by omega), (show ¬ g.nx ≤ h.nx + 1 by omega), (show ¬ k.nx ≤ h.nx + 1 by omega), (show ¬ h.nx + 1 = m.nx by omega), q2w, G_shape_Ends, B_shape_Ends, oneD, fpAt, fpOf, q0v, ldOf, q0T, q0m, FP.clash, FP.hard, FP.soft, overlap, inR, q0A, q1T, Nat.testBit] <;> rfl) ?_
        dsimp only [okD, q0a, q0f]
        repeat' first | (refine TW.regG hP (by simp <;> rfl) ?_; dsimp only [goK]) | simp only [q0d]
        refine ⟨i + 1, by omega, trivial, ?_, by omega, fin _ rfl⟩
        repeat' first | exact q0c | refine q0b (by simp [w64s (show i < 9000000000000000000 by omega)]) ?_
        skip))
  · simp at hc
    have hi2 : i = bl.length := by omega
    subst hi2
    rw [List.take_length] at w6
    dsimp only [q0a]
    obtain ⟨d3, d4⟩ := w6.cell
    repeat' first | refine TW.seq ?_ | (refine TW.regG hP (by simp [w5, d3, d4] <;> rfl) ?_; dsimp only [goK]) | simp only [q0a]
    refine TW.ret ⟨.inr rfl, _, [v], rfl, by simp [resK, get_put], ?_⟩
    refine ⟨w1.put (by omega) _, (w6.mono (by omega)).same (by rw [nx_put]; exact Nat.le_refl _) fun s h1 h2 => ?_⟩
    by_cases e : s = h.nx + 1
    · subst e
      rw [get_put, if_pos rfl, w5]
    · rw [get_put, if_neg (Ne.symm e)]
theorem SlO.rowsOf {ρ : X → List AV → Asr} {es : Nat} {eT : TypeId} {v : AV} {l : List X} {h : Hp} (H : SlO AnyF ρ es eT v l h S) :
  ∃ Ss : Nat → Nat → Prop, (∀ j s, Ss j s → S s) ∧ (∀ i j s, Ss i s → Ss j s → i = j) ∧ ∀ j a, l[j]? = some a → ∃ qi fi rows row, v = .sl qi 0 l.length l.length es fi ∧ S qi ∧ h.get qi = some (.cells eT rows.flatten) ∧ q3l es rows ∧ rows[j]? = some row ∧ row.length = es ∧ ρ a row h (Ss j) ∧ ∀ s, Ss j s → s ≠ qi := by
 rcases H with ⟨rfl, H⟩ | ⟨x, h0, hn, r, rows, Ss, h1, h2, h3, h4, h5, h6, h7, h8⟩
 ·exact ⟨fun _ _ => False, fun _ _ h => h.elim, fun _ _ _ h => h.elim, fun j a h => by simp at h⟩
 ·refine ⟨Ss, fun j s hs => (h6 j s hs).1, h7, fun j a ha => ?_⟩
  obtain ⟨row, hrow⟩ := q0g (l := rows) (i := j) (by have := (List.getElem?_eq_some_iff.1 ha).1; omega)
  exact ⟨r, x, rows, row, h1, h2, h3, h5, hrow, h5 row (List.mem_of_getElem? hrow), h8 j a row ha hrow, fun s hs => (h6 j s hs).2⟩
def kpq (ls : List Int) (r0 : Int) (y : LIns × Nat) : Bool := !(ls.any fun z => decide (r0 + y.2 = z))
def kpL (ls : List Int) (r0 : Int) (l : List (LIns × Nat)) : List LIns := (l.filter (kpq ls r0)).map (·.1)
def kpB (ls : List Int) (r0 : Int) (b : LBlock) : LBlock := { ins := .of (kpL ls r0 b.ins.list.zipIdx), ed := b.ed }
theorem kpL_succ {ls : List Int} {r0 : Int} {l : List LIns} {j : Nat} {x : LIns} (hx : l[j]? = some x) : kpL ls r0 (l.zipIdx.take (j + 1)) = kpL ls r0 (l.zipIdx.take j) ++ if kpq ls r0 (x, j) = true then [x] else [] := by
 unfold kpL
 rw [show l.zipIdx.take (j + 1) = l.zipIdx.take j ++ [(x, j)] by
  obtain ⟨h1, h2⟩ := List.getElem?_eq_some_iff.1 (z0j hx)
  rw [List.take_succ_eq_append_getElem h1, h2]]
 rw [List.filter_append, List.map_append]
 cases h : kpq ls r0 (x, j) <;> simp [h]
theorem kpL_len (ls : List Int) (r0 : Int) (l : List (LIns × Nat)) : (kpL ls r0 l).length ≤ l.length := by
 unfold kpL
 rw [List.length_map]
 exact List.length_filter_le _ _
theorem kpB_mem {ls : List Int} {r0 : Int} {b : LBlock} {x : LIns} (h : x ∈ (kpB ls r0 b).ins.list) : x ∈ b.ins.list := by
 unfold kpB kpL at h
 dsimp only at h
 rw [Sl.of_list] at h
 obtain ⟨y, hy, rfl⟩ := List.mem_map.1 h
 have := (List.mem_filter.1 hy).1
 obtain ⟨i, hi, he⟩ := List.getElem_of_mem this
 rw [← he]
 simp
theorem kpB_len (ls : List Int) (r0 : Int) (b : LBlock) : (kpB ls r0 b).ins.list.length ≤ b.ins.list.length := by
 unfold kpB
 dsimp only
 rw [Sl.of_list]
 have := kpL_len ls r0 b.ins.list.zipIdx
 simpa using this
theorem many6_mapIdx {f : Nat → LBlock → LBlock} (hf : ∀ i b, (f i b).ins.list.length ≤ b.ins.list.length) : ∀ l : List LBlock, q0q (l.mapIdx f) ≤ q0q l := by
  intro l
  induction l generalizing f with
  | nil => simp [q0q]
  | cons a l ih =>
    rw [List.mapIdx_cons]
    have h1 := hf 0 a
    have h2 := ih (f := fun i => f (i + 1)) fun i b => hf (i + 1) b
    simp only [q0q]
    omega
def kdL (ls : List Int) (params : Int) (bl : List LBlock) (k : Nat) : List LBlock := bl.mapIdx fun i b => if i < k then kpB ls (params + q0q (bl.take i)) b else b
theorem kdL_len {ls : List Int} {params : Int} {bl : List LBlock} {k : Nat} : (kdL ls params bl k).length = bl.length := by simp [kdL]
theorem kdL_get {ls : List Int} {params : Int} {bl : List LBlock} {k : Nat} {b : LBlock} (h : bl[k]? = some b) : (kdL ls params bl k)[k]? = some b := by
 unfold kdL
 rw [List.getElem?_mapIdx, h]
 simp
theorem kdL_set {ls : List Int} {params : Int} {bl : List LBlock} {k : Nat} {b : LBlock} (h : bl[k]? = some b) : (kdL ls params bl k).set k (kpB ls (params + q0q (bl.take k)) b) = kdL ls params bl (k + 1) := by
  refine List.ext_getElem? fun i => ?_
  rw [List.getElem?_set]
  have hk := (List.getElem?_eq_some_iff.1 h).1
  unfold kdL
  by_cases e : k = i
  · subst e
    rw [if_pos rfl, if_pos (by simpa using hk), List.getElem?_mapIdx, h]
    simp
  · rw [if_neg e, List.getElem?_mapIdx, List.getElem?_mapIdx]
    cases hb : bl[i]? with
    | none => rfl
    | some c =>
      simp only [Option.map_some]
      by_cases h1 : i < k
      · rw [if_pos h1, if_pos (by omega)]
      · rw [if_neg h1, if_neg (by omega)]
theorem kdL_zero {ls : List Int} {params : Int} {bl : List LBlock} : kdL ls params bl 0 = bl := by
 refine List.ext_getElem? fun i => ?_
 unfold kdL
 rw [List.getElem?_mapIdx]
 cases bl[i]? <;> simp
def z0i (ls : List Int) (params : Int) (bl : List LBlock) : List LBlock := bl.mapIdx fun i b => kpB ls (params + q0q (bl.take i)) b
theorem kdL_end {ls : List Int} {params : Int} {bl : List LBlock} : kdL ls params bl bl.length = z0i ls params bl := by
  refine List.ext_getElem? fun i => ?_
  unfold kdL z0i
  rw [List.getElem?_mapIdx, List.getElem?_mapIdx]
  cases hb : bl[i]? with
  | none => rfl
  | some c =>
    have := (List.getElem?_eq_some_iff.1 hb).1
    simp [this]
theorem SlO.of_arr {ρ : X → List AV → Asr} {es : Nat} {eT : TypeId} {v : AV} {l : List X} {h : Hp} (H : ArrS ρ es eT false v (Sl.of l) h S) : SlO AnyF ρ es eT v l h S := by
 cases l with
 | nil => exact .inl ⟨rfl, .inr ⟨trivial, .inl H⟩⟩
 | cons a l => exact .inr ⟨false, trivial, nofun, H⟩
set_option maxHeartbeats 4000000 in
theorem drop_mem (hP : POk Tryz.prog F gl K) (hX : ∀ f a, K.ext f a = none) (hG : gl q1n = .iptr [q1s] 0 0) (q : Nat) (params : Int) (bv : AV) (bl : List LBlock) (Sb : Nat → Prop) (ls : Sl Int) (h : Hp) (hlen : ls.list.length < 1000000)
    (hp0 : 0 ≤ params) (hp1 : params + q0q bl < 900000000) (hnb : bl.length < 1000000) (hnk : ∀ b ∈ bl, b.ins.list.length < 900000) (hq : h.get q = some (.cells 69 [.int .i64 params, bv])) (hqn : q < h.nx) (hqS : ¬ Sb q) (hB : SlO AnyF (BlkO AnyF) 5 q0s bv bl h Sb) (hSb : ∀ s, Sb s → s < h.nx)
    (Rd : Int → Prop) (hRd : ∀ r, Rd r → 0 ≤ r ∧ r < 1000000000) (hr : ∀ b ∈ bl, RdB Rd b) :
    CallsT Tryz.prog F h (fun _ g => h.nx ≤ g.nx ∧ (∀ s, s < h.nx → ¬ Sb s → g.get s = h.get s) ∧ ∃ S, (∀ s, S s → Sb s ∨ h.nx ≤ s) ∧ (∀ s, S s → s < g.nx) ∧ SlO AnyF (BlkO AnyF) 5 q0s bv ((z0i ls.list params bl).map (q7c fun r => r - ahead ls.list r)) g S) q3O [.ptr q 0, ls.av cI] := by
  refine CallsT.body hP q0e q9R rfl rfl ?_
  obtain ⟨z1, z2, z3, z4⟩ := hB.len
  have hlv := fun h => q3F (C := Ctx.of Tryz.prog gl K) (t := q1D) (h := h) z1 z2
  dsimp only [q1D] at hlv
  refine TW.seq (TW.regG hP (by simp <;> rfl) ?_)
  dsimp only [goK, q0a, q0f, q0d]
  refine TW.gen (fun g => g.get h.nx = some (.cells 26 [ls.av cI]) ∧ Wid h g ∧ h.nx < g.nx) ⟨by simp, (Wid.refl h).new _, by simp⟩ fun g hg => ?_
  obtain ⟨g1, hw, hn⟩ := hg
  have gq : g.get q = _ := (hw.get q hqn).trans hq
  have hmono := q3h bl
  repeat' first | refine TW.seq ?_ | refine TW.block ?_ | (refine TW.regG hP (by simp [gq, hlv] <;> rfl) ?_; dsimp only [goK])
  refine TW.loopL (fun k : Nat => [(0, .ptr q 0), (3, .ptr h.nx 0), (4, .int .i64 (params + q0q (bl.take k))), (17, .int .i64 bl.length), (18, .int .i64 k)]) (fun k m => k ≤ bl.length ∧ h.nx < m.nx ∧ m.get h.nx = some (.cells 26 [ls.av cI]) ∧ (∀ s, s < h.nx → ¬ Sb s → m.get s = h.get s) ∧ ∃ S, (∀ s, S s → Sb s ∨ h.nx < s) ∧ (∀ s, S s → s < m.nx) ∧ SlO AnyF (BlkO AnyF) 5 q0s bv (kdL ls.list params bl k) m S) (fun k => bl.length - k) (0) ?_ ?_ ?_
  focus (repeat' first | exact q0c | refine q0b (by simp [q0q]) ?_)
  · exact ⟨Nat.zero_le _, hn, g1, fun s h1 _ => hw.get s h1, Sb, fun s hs => .inl hs, fun s hs => by have := hSb s hs; omega, by rw [kdL_zero]; exact SlO.locl BlkO.locl _ _ _ _ hB (fun _ h => h) (q5P hw hSb)⟩
  clear g1 hw hn gq g
  rintro k m ⟨hk, w1, w2, w3, S, w4, w5, w6⟩
  have hqm : m.get q = _ := (w3 q hqn hqS).trans hq
  repeat' first | refine TW.seq ?_ | (refine TW.regG hP (by simp <;> rfl) ?_; dsimp only [goK])
  refine TW.cond hP rfl (fun hc => TW.skip ?_) (fun hc => TW.exit ?_)
  · simp at hc
    obtain ⟨b, hb⟩ := q0g hc
    obtain ⟨fx, r, rows, row, Si, hv, hrS, hgr, hrows, hri, hrl, hSi, ⟨u, rfl, hI⟩, wand⟩ := w6.at BlkO.locl (kdL_get hb)
    rw [kdL_len] at hv
    subst hv
    obtain ⟨y1, y2, y3, y4⟩ := hI.len
    have hlu := fun h => q3F (C := Ctx.of Tryz.prog gl K) (t := q3V) (h := h) y1 y2
    dsimp only [q3V] at hlu
    have hL := fun t => q2i (C := Ctx.of Tryz.prog gl K) (t := t) hgr hrows hri
    dsimp only [LEnd.cells] at hL
    have ht := q2X hb
    have h1' := q0J (bl.take k)
    have h2' := q3h bl (k + 1)
    have hrn := w5 r hrS
    obtain ⟨Ss, hs1, hs2, hs3⟩ := hI.rowsOf
    dsimp only [q0a]
    repeat' first | refine TW.seq ?_ | refine TW.block ?_ | (refine TW.regG hP (by simp [hqm, hL, q0L, q1h, hc, hlu] <;> rfl) ?_; dsimp only [goK])
    refine TW.loopL (fun z : Nat × AV => [(0, .ptr q 0), (3, .ptr h.nx 0), (4, .int .i64 (params + q0q (bl.take k) + z.1)), (5, .int .i64 k), (6, z.2), (17, .int .i64 bl.length), (18, .int .i64 k), (28, u), (29, .int .i64 b.ins.list.length), (30, .int .i64 z.1)]) (fun z m' => z.1 ≤ b.ins.list.length ∧ Wid m m' ∧ (∀ r o n c e x, z.2 = .sl r o n c e x → m.nx ≤ r) ∧ ∃ SL, (∀ s, SL s → (∃ i, i < z.1 ∧ Ss i s) ∨ (m.nx ≤ s ∧ s < m'.nx)) ∧ ArrS (InsO OffF) 7 q0M false z.2 (Sl.of (kpL ls.list (params + q0q (bl.take k)) (b.ins.list.zipIdx.take z.1))) m' SL) (fun z => b.ins.list.length - z.1) ((0, .nilsl)) ?_ ?_ ?_
    focus (repeat' first | exact q0c | refine q0b (by simp) ?_)
    · exact ⟨Nat.zero_le _, .refl m, nofun, fun _ => False, fun _ h => h.elim, rfl⟩
    rintro ⟨j, v⟩ m' ⟨hj, hw', hvn, SL, hSL, hA⟩
    dsimp only at hj hvn hSL hA ⊢
    have hnm' := hw'.nx
    repeat' first | refine TW.seq ?_ | (refine TW.regG hP (by simp <;> rfl) ?_; dsimp only [goK])
    refine TW.cond hP rfl (fun hc => TW.skip ?_) (fun hc => TW.exit ?_)
    · simp at hc
      rename_i hck
      obtain ⟨x, hx⟩ := q0g hc
      obtain ⟨qi, fi, rows2, row2, hu, hqS, hgq, hrows2, hrj, hrl2, hI2, hne⟩ := hs3 j x hx
      subst hu
      have hIm := InsO.locl _ _ _ m' _ _ hI2 (fun _ h => h) fun s hs => hw'.get s (w5 s (hSi s (hs1 j s hs)).1)
      have hgq' : m'.get qi = _ := (hw'.get qi (w5 qi (hSi qi hqS).1)).trans hgq
      have hIm2 := hIm
      obtain ⟨va, vf, Sa, Sf, rfl, ha, hf, _, _⟩ := hIm
      obtain ⟨_, _, p1, p2⟩ := ha.len
      obtain ⟨_, _, p3, p4⟩ := hf.len
      have hL2 := fun t => q2i (C := Ctx.of Tryz.prog gl K) (t := t) hgq' hrows2 hrj
      dsimp only [q0a]
      refine TW.seq ?_
      refine TW.block ?_
      refine TW.seq (TW.regG hP (by simp [hL2, q0L, q1h, hc, p1, p3] <;> rfl) ?_)
      dsimp only [goK, q0a, q0f, q0d]
      refine TW.gen (fun g => g.get m'.nx = some (.cells q0M [.int .u8 x.op, .int .i64 x.type, .int .i64 x.a, .int .i64 x.b, .int .i64 x.n, va, vf]) ∧ Wid m' g ∧ g.nx = m'.nx + 1) ⟨by simp, ((Wid.refl m').new _).put (by simp) _, by simp⟩ fun g hg => ?_
      obtain ⟨g1, hwg, hng⟩ := hg
      dsimp only [q0M] at g1
      have ghx : g.get h.nx = _ := (hwg.get _ (by omega)).trans ((hw'.get _ w1).trans w2)
      have e1 := q6m hP ls (params + q0q (bl.take k) + j) hlen
      have hsuc := kpL_succ (ls := ls.list) (r0 := params + q0q (bl.take k)) hx
      have hrj0 := hnk b (List.mem_of_getElem? hb)
      have hmle := q3h bl (k + 1)
      have hSLn : ∀ s, SL s → s < m'.nx := fun s hs => by
        rcases hSL s hs with ⟨i, h1, h2⟩ | h1
        · have := w5 s (hSi s (hs1 i s h2)).1; omega
        · omega
      have hAg := ArrS.locl InsO.locl _ g _ SL hA (fun _ h => h) fun s hs => hwg.get s (hSLn s hs)
      cases hkp : (ls.list.any fun y => decide (params + q0q (bl.take k) + j = y)) with
      | true =>
        rw [hkp] at e1
        have hkq : kpq ls.list (params + q0q (bl.take k)) (x, j) = false := by unfold kpq; dsimp only; rw [hkp]; rfl
        rw [if_neg (by rw [hkq]; simp), List.append_nil] at hsuc
        repeat' first | refine TW.seq ?_ | refine TW.skip ?_ | refine TW.condF hP rfl ?_ | (refine TW.regG hP (by simp [ghx] <;> rfl) ?_; dsimp only [goK]) | (refine TO.scall hP q1o (e1) ?_ rfl rfl rfl rfl ?_; (focus (simp; done)); refine TO.runsG hP (by simp <;> rfl) ?_; dsimp only [goK]) | simp only [q0d]
        refine ⟨(j + 1, v), by dsimp only; omega, trivial, ?_, by dsimp only; omega, hw'.trans hwg, hvn, SL, fun s hs => ?_, by rw [hsuc]; exact hAg⟩
        · repeat' first | exact q0c | refine q0b (by simp [w64s (show j < 9000000000000000000 by omega), w64e (n := params + (q0q (bl.take k) + ((j : Int) + 1))) (by omega) (by omega), Int.add_assoc]) ?_
        · rcases hSL s hs with ⟨i, h1, h2⟩ | h1
          · exact .inl ⟨i, by dsimp only; omega, h2⟩
          · exact .inr (by omega)
      | false =>
        rw [hkp] at e1
        have hkq : kpq ls.list (params + q0q (bl.take k)) (x, j) = true := by unfold kpq; dsimp only; rw [hkp]; rfl
        rw [if_pos hkq] at hsuc
        have hIg := InsO.locl _ _ _ g _ (Ss j) hIm2 (fun _ h => h) fun s hs => hwg.get s (by have := w5 s (hSi s (hs1 j s hs)).1; omega)
        have hkl := kpL_len ls.list (params + q0q (bl.take k)) (b.ins.list.zipIdx.take j)
        rw [List.length_take] at hkl
        have hdis : ∀ s, Ss j s → ¬ SL s ∧ s < g.nx := fun s hs => ⟨fun h => by
          rcases hSL s h with ⟨i, h1, h2⟩ | h1
          · have := hs2 _ _ _ h2 hs; omega
          · have := w5 s (hSi s (hs1 j s hs)).1; omega, by have := w5 s (hSi s (hs1 j s hs)).1; omega⟩
        obtain ⟨v', m3, happ, hA3, hfr, hn3⟩ := hAg.push (t := q3V) (a := x) (C := Ctx.of Tryz.prog gl K) InsO.locl z1j (fun s hs => by have := hSLn s hs; omega) rfl (by simp [p1, p3]) (by rw [Sl.of_list]; omega) hIg hdis
        dsimp only [q3V, q0M] at happ
        obtain ⟨f1, f2, f3⟩ := q9c happ
        obtain ⟨_, _, p5, p6⟩ := hA3.len
        repeat' first | refine TW.seq ?_ | refine TW.condT hP rfl ?_ | (refine TW.regG hP (by simp [ghx, g1, happ] <;> rfl) ?_; dsimp only [goK]) | (refine TO.scall hP q1o (e1) ?_ rfl rfl rfl rfl ?_; (focus (simp; done)); refine TO.runsG hP (by simp <;> rfl) ?_; dsimp only [goK]) | simp only [q0d]
        refine ⟨(j + 1, v'), by dsimp only; omega, trivial, ?_, by dsimp only; omega, ⟨by omega, fun s hs => ?_⟩, fun r o n c e x he => ?_, (fun s => SL s ∨ Ss j s ∨ s = g.nx + 1), fun s hs => ?_, ?_⟩
        · repeat' first | exact q0c | refine q0b (by simp [w64s (show j < 9000000000000000000 by omega), w64e (n := params + (q0q (bl.take k) + ((j : Int) + 1))) (by omega) (by omega), Int.add_assoc]) ?_
        · rw [f1 s (by rw [nx_new]; omega) fun o n c e x he => by have := hvn _ _ _ _ _ _ he; omega, get_new, if_neg (by omega), hwg.get s (by omega), hw'.get s hs]
        · rcases f3 r o n c e x he with h1 | ⟨_, _, _, _, _, h1⟩
          · rw [h1, nx_new]; omega
          · exact hvn _ _ _ _ _ _ h1
        · rcases hs with hs | hs | hs
          · rcases hSL s hs with ⟨i, h1, h2⟩ | h1
            · exact .inl ⟨i, by dsimp only; omega, h2⟩
            · exact .inr (by omega)
          · exact .inl ⟨j, by dsimp only; omega, hs⟩
          · exact .inr (by omega)
        · dsimp only
          rw [hsuc, ← push_of]
          exact hA3
    · simp at hc
      have hj2 : j = b.ins.list.length := by omega
      subst hj2
      rw [List.take_of_length_le (l := b.ins.list.zipIdx) (by simp)] at hA
      have hlow : ∀ s, s < m.nx → m'.get s = m.get s := hw'.get
      have hqm' : m'.get q = _ := (hlow q (by omega)).trans hqm
      have hgr' : m'.get r = _ := (hlow r hrn).trans hgr
      obtain ⟨_, _, p5, p6⟩ := hA.len
      have hSt := store10 (C := Ctx.of Tryz.prog gl K) (v := v) hgr' hrows hri p6 p5 (by omega)
      dsimp only [q0s, LEnd.cells] at hSt
      have hck := (List.getElem?_eq_some_iff.1 hb).1
      dsimp only [q0a]
      repeat' first | (refine TW.regG hP (by simp [hqm', hSt, -storeAt, sz1, hck] <;> rfl) ?_; dsimp only [goK]) | simp only [q0d]
      have hrh : r ≠ h.nx := by
        rcases w4 r hrS with h1 | h1
        · have := hSb r h1; omega
        · omega
      have hnm2 := hw'.nx
      have hSLn : ∀ s, SL s → s < m'.nx ∧ s ≠ r := fun s hs => by
        rcases hSL s hs with ⟨i, h1, h2⟩ | h1
        · have := w5 s (hSi s (hs1 i s h2)).1; exact ⟨by omega, (hSi s (hs1 i s h2)).2⟩
        · exact ⟨by omega, by omega⟩
      refine ⟨k + 1, by omega, trivial, ?_, by omega, by rw [nx_put]; omega, ?_, fun s h1 h2 => ?_, (fun s => S s ∨ SL s), fun s hs => ?_, fun s hs => ?_, ?_⟩
      · repeat' first | exact q0c | refine q0b (by simp [w64s (show k < 9000000000000000000 by omega), ht, Int.add_assoc]) ?_
      · rw [get_put, if_neg hrh, hlow _ w1]; exact w2
      · rw [get_put, if_neg (fun e : r = s => by
          subst e
          rcases w4 r hrS with h3 | h3
          · exact h2 h3
          · omega), hlow s (by omega)]
        exact w3 s h1 h2
      · rcases hs with hs | hs
        · exact w4 s hs
        · rcases hSL s hs with ⟨i, h1, h2⟩ | h1
          · exact w4 s (hSi s (hs1 i s h2)).1
          · exact .inr (by omega)
      · rw [nx_put]
        rcases hs with hs | hs
        · have := w5 s hs; omega
        · exact (hSLn s hs).1
      · rw [← kdL_set hb]
        refine wand _ SL (kpB ls.list (params + q0q (bl.take k)) b) [v, .int .u8 b.ed.kind, .int .i64 b.ed.a, .int .i64 b.ed.to, .int .i64 b.ed.els] rfl (by rw [get_put, if_pos rfl]) (fun s h1 h2 h3 => ?_) (fun s hs => ?_) ⟨v, rfl, ?_⟩ _ (fun s hs => .inl hs) (fun s hs => .inr hs)
        · rw [get_put, if_neg (Ne.symm h3), hlow s (w5 s h1)]
        · rcases hSL s hs with ⟨i, h1, h2⟩ | h1
          · exact .inl (hs1 i s h2)
          · exact .inr fun h2 => by have := w5 s h2; omega
        · have := SlO.of_arr hA
          have e : (kpB ls.list (params + q0q (bl.take k)) b).ins.list = kpL ls.list (params + q0q (bl.take k)) b.ins.list.zipIdx := Sl.of_list _
          rw [e]
          exact SlO.locl InsO.locl _ _ _ _ this (fun _ h => h) fun s hs => by rw [get_put, if_neg (Ne.symm (hSLn s hs).2)]
  · simp at hc
    have hk2 : k = bl.length := by omega
    subst hk2
    rw [kdL_end] at w6
    have hfz : ∀ g : Hp, g.get h.nx = m.get h.nx → frzV 3 g (.ptr h.nx 0) = some (.iptr [[ls.av cI]] 0 0) := fun g hg => by
      have := q6R (k := 1) (h := g) (e := cI) (fun _ => rfl) ls
      unfold frzV
      dsimp only
      rw [hg, w2]
      dsimp only [mapO]
      rw [this]
    dsimp only [q0a]
    refine TW.freeze (l' := [(0, .ptr q 0), (3, .iptr [[ls.av cI]] 0 0)]) (fun s => s = h.nx) (q1M rfl (q6U (k := 3) rfl (fun g hg => hfz g (hg _ rfl)) frz_nil)) ?_
    have hwo : ∀ s, s ≠ h.nx → (m.wo fun s => s = h.nx).get s = m.get s := fun s hs => q8p hs
    have hSh : ∀ s, S s → s ≠ h.nx := fun s hs => by
      rcases w4 s hs with h1 | h1
      · have := hSb s h1; omega
      · omega
    have hqw : (m.wo fun s => s = h.nx).get q = _ := (hwo q (by omega)).trans ((w3 q hqn hqS).trans hq)
    have hBw := SlO.locl BlkO.locl _ (m.wo fun s => s = h.nx) _ S w6 (fun _ h => h) fun s hs => hwo s (hSh s hs)
    have hml : q0q (z0i ls.list params bl) ≤ q0q bl := many6_mapIdx (fun i b => kpB_len _ _ b) bl
    have hto : ToFn F q3a [.iptr [[ls.av cI]] 0 0] (fun r => r - ahead ls.list r) Rd := ⟨fun r h => drop1_pure hP ls r hlen (hRd r h).1 (hRd r h).2, _, q5p, rfl⟩
    have hkr : ∀ b ∈ z0i ls.list params bl, RdB Rd b := fun b hb => by
      obtain ⟨i, hi, rfl⟩ := List.mem_mapIdx.1 hb
      have hm := hr _ (List.getElem_mem hi)
      exact ⟨fun x hx => hm.ins x (kpB_mem hx), hm.ed⟩
    have hqS2 : ¬ S q := fun h1 => by
      rcases w4 q h1 with h2 | h2
      · exact hqS h2
      · omega
    repeat' first | (refine TW.regG hP (by simp <;> rfl) ?_; dsimp only [goK])
    refine TO.ccall hP q5V (turn_mem hP hX hG hto rfl q params bv (z0i ls.list params bl) S _ hp0 (by omega) (by simpa [z0i] using hnb) hqw (by rw [wo_nx]; omega) hqS2 hBw (fun s hs => by rw [wo_nx]; exact w5 s hs) hkr) (by simp) rfl rfl rfl rfl (fun v g ⟨p1, p2, p3⟩ => ?_)
    refine TO.runsG hP (by simp <;> rfl) ?_
    try dsimp only [goK]
    skip
    rw [wo_nx] at p1 p2
    refine ⟨.inl rfl, g, [], rfl, rfl, by omega, fun s h1 h2 => ?_, S, fun s hs => (w4 s hs).imp id fun h => by omega, fun s hs => by have := w5 s hs; omega, p3⟩
    by_cases hsS : S s
    · rcases w4 s hsS with h3 | h3
      · exact absurd h3 h2
      · omega
    · rw [p2 s (by omega) hsS, hwo s (by omega)]
      exact w3 s h1 h2
end Go.Ax
set_option maxRecDepth 20000
noncomputable section
namespace Go.Ax
open Go.Proofs
attribute [local irreducible] TW TO CallsT q0y
variable {F : Nat → Option Obj} {gl : Nat → AV} {K : Knob} {S S' : Nat → Prop} {X : Type}
section
variable {P : Program} {C : Ctx} {ih : Code → St → Res} {s : St} {dd : Option Nat} {x y : Operand} {ts : Array TypeId} {tl : List TypeId} {ty : TypeId} {pos : String} {aft : Array Edge} {gd : Option (Nat × Bool)} {h : Hp} {a b : Int}
theorem b_min : q2R C .min tl [.int .i64 a, .int .i64 b] h = some (.val (.int .i64 (if b < a then b else a)) h) := by
 show some (OpR.val (.int .i64 (bif ltI b a then b else a)) h) = _
 rw [q5z]
 by_cases hb : b < a <;> simp [hb]
theorem b_max : q2R C .max tl [.int .i64 a, .int .i64 b] h = some (.val (.int .i64 (if a < b then b else a)) h) := by
 show some (OpR.val (.int .i64 (bif ltI a b then b else a)) h) = _
 rw [q5z]
 by_cases hb : a < b <;> simp [hb]
end
attribute [simp] a_min a_max b_min b_max
def ProgM (n0 : Nat) (tl : List LType) (fl : List LFunc) (v : AV) (g : Hp) : Prop :=
 ∃ tv fv ST SF, v = .agg [tv, fv] ∧ SlO AnyF (TypO AnyF) 4 q1W tv tl g ST ∧ SlO AnyF (FunO AnyF) 2 q0R fv fl g SF ∧ (∀ s, ST s → n0 ≤ s ∧ s < g.nx ∧ ¬ SF s) ∧ ∀ s, SF s → n0 ≤ s ∧ s < g.nx
theorem ProgM.put {n0 : Nat} {tl : List LType} {fl : List LFunc} {v : AV} {g m : Hp} (H : ProgM n0 tl fl v g) (hn : g.nx ≤ m.nx) (hs : ∀ s, n0 ≤ s → s < g.nx → m.get s = g.get s) : ProgM n0 tl fl v m := by
 obtain ⟨tv, fv, ST, SF, h1, h2, h3, h4, h5⟩ := H
 exact ⟨tv, fv, ST, SF, h1, SlO.locl TypO.locl _ _ _ _ h2 (fun _ h => h) fun s hs' => hs s (h4 s hs').1 (h4 s hs').2.1, SlO.locl FunO.locl _ _ _ _ h3 (fun _ h => h) fun s hs' => hs s (h5 s hs').1 (h5 s hs').2, fun s hs' => ⟨(h4 s hs').1, by have := h4 s hs'; omega, (h4 s hs').2.2⟩, fun s hs' => ⟨(h5 s hs').1, by have := h5 s hs'; omega⟩⟩
theorem ProgM.low {n0 n1 : Nat} {tl : List LType} {fl : List LFunc} {v : AV} {g : Hp} (H : ProgM n0 tl fl v g) (hn : n1 ≤ n0) : ProgM n1 tl fl v g := by
 obtain ⟨tv, fv, ST, SF, h1, h2, h3, h4, h5⟩ := H
 exact ⟨tv, fv, ST, SF, h1, h2, h3, fun s hs' => ⟨by have := h4 s hs'; omega, (h4 s hs').2⟩, fun s hs' => ⟨by have := h5 s hs'; omega, (h5 s hs').2⟩⟩
def noV : AV := .agg [.nilsl, .nilsl]
def setF (p : LProg) (f : Nat) (x : LFunc) (bl : List LBlock) : List LFunc := p.funcs.list.set f { x with blocks := .mk bl }
theorem rdB_of {p : LProg} {x : LFunc} (h : q0I p x = true) (hs : SmallF x) (ho : OpsOk x) : ∀ b ∈ x.blocks.list, RdB (fun r => 0 ≤ r ∧ r < (q0w p x).toNat) b := fun b hb => by
 obtain ⟨r1, r2, r3, r4⟩ := q8S h b hb
 exact ⟨fun y hy => ⟨r1 y hy, r2 y hy, r3 y hy, ho.op b hb y hy, hs.args b hb y hy⟩, r4⟩
def swapT (a b : Int) : Int → Int := fun r => if r = a then b else r
def q8H (p : LProg) (f a b : Int) : Int := if q0K p f = 0 then (match p.funcs.list[f.toNat]? with
 | some x => if a < 0 ∨ b < 0 ∨ q0w p x ≤ a ∨ q0w p x ≤ b then 2 else 0
 | none => 0) else q0K p f
set_option maxHeartbeats 4000000 in
theorem Swap_mem (hV : Env F gl K) (p : LProg) (f a b : Int) (hs : SmallP p) (ho : OpsP p) (h0 : Hp) :
  CallsT Tryz.prog F h0 (fun v g => Wid h0 g ∧ ((q8H p f a b ≠ 0 ∧ v = .tup [noV, .int .i64 (q8H p f a b)]) ∨ (q8H p f a b = 0 ∧ ∃ x u, p.funcs.list[f.toNat]? = some x ∧ q0K p f = 0 ∧ v = .tup [u, .int .i64 0] ∧ ProgM h0.nx p.types.list (setF p f.toNat x (x.blocks.list.map (q7c (swapT a b)))) u g))) q3n [.agg p.cells, .int .i64 f, .int .i64 a, .int .i64 b] := by
 have hP := hV.P
 have hX := hV.X
 refine CallsT.body hP q0e E_tidy_Swap rfl rfl ?_
 refine TW.seq (TW.regG hP (by simp <;> rfl) ?_)
 dsimp only [goK, q0a, q0f, q0d]
 refine TW.gen (fun g => g.get h0.nx = some (.cells q0k p.cells) ∧ g.get (h0.nx + 1) = some (.cells q0C [.int .i64 a]) ∧ g.get (h0.nx + 2) = some (.cells q0C [.int .i64 b]) ∧ g.get (h0.nx + 3) = some (.cells q0k [.nilsl, .nilsl]) ∧ Wid h0 g ∧ g.nx = h0.nx + 4) ⟨by simp [show ¬ h0.nx + 1 + 1 + 1 = h0.nx by omega, show ¬ h0.nx + 1 + 1 = h0.nx by omega], by simp [show ¬ h0.nx + 1 + 1 = h0.nx by omega], by simp <;> omega, by simp <;> omega, ((((Wid.refl h0).new _).new _).new _).new _, by simp⟩ fun g hg => ?_
 obtain ⟨g0, g1, g2, g3, hw0, hn0⟩ := hg
 dsimp only [q0k, q0C, LProg.cells] at g0 g1 g2 g3
 repeat' first | refine TW.seq ?_ | (refine TW.regG hP (by simp [g0] <;> rfl) ?_; dsimp only [goK])
 refine TO.ccall hP I_tidy_of (of_mem hV p f hs ho g) (by simp) rfl rfl rfl rfl (fun v k ⟨hwk, hv⟩ => ?_)
 have nk := hwk.nx
 have k1 : k.get (h0.nx + 1) = _ := (hwk.get _ (by omega)).trans g1
 have k2 : k.get (h0.nx + 2) = _ := (hwk.get _ (by omega)).trans g2
 have k3 : k.get (h0.nx + 3) = _ := (hwk.get _ (by omega)).trans g3
 rcases hv with ⟨hne, rfl⟩ | ⟨ha, x, u, q, bv, Sb, W, hx, rfl, hO⟩
 ·refine TO.runsG hP (by simp <;> rfl) ?_
  try dsimp only [goK]
  repeat' first | refine TW.seq ?_ | refine TW.condT hP rfl ?_ | (refine TW.regG hP (by simp [k3, hne] <;> rfl) ?_; dsimp only [goK]) | simp only [q0a]
  have he : q8H p f a b = q0K p f := by unfold q8H; rw [if_neg hne]
  refine TW.ret ⟨.inr rfl, _, [noV, .int .i64 (q0K p f)], rfl, by simp [resK, get_put, noV], ?_⟩
  rw [he]
  exact ⟨(((hw0.trans hwk).new _).put (by omega) _).put (by omega) _, .inl ⟨hne, rfl⟩⟩
 ·obtain ⟨c1, c2, c3⟩ := q4P ha
  obtain ⟨n, rfl⟩ := Int.eq_ofNat_of_zero_le c2
  have hmf := (q2d c1).2.1 x (List.mem_of_getElem? hx)
  obtain ⟨a1, a2, a3, a4, a5, a6⟩ := q2M hmf
  obtain ⟨r1, r2⟩ := q6z hmf hs.parts
  have hsx := hs.funcs x (List.mem_of_getElem? hx)
  have hox := ho.op x (List.mem_of_getElem? hx)
  have hm0 := q0J x.blocks.list
  have hsp : 0 ≤ q0i p x := by unfold q0i; split <;> omega
  have hrg : q0w p x = q0i p x + q0q x.blocks.list := rfl
  have he : q8H p n a b = if a < 0 ∨ b < 0 ∨ q0w p x ≤ a ∨ q0w p x ≤ b then 2 else 0 := by
   unfold q8H; rw [if_pos ha, hx]
  obtain ⟨tv0, fv0, ST0, SF0, rfl, hT0, hF0, _, _⟩ := hO.close k x.blocks.list Sb (fun _ _ _ => rfl) (fun s hs => .inl hs) hO.blk
  obtain ⟨_, _, d1, d2⟩ := hT0.len
  obtain ⟨_, _, d3, d4⟩ := hF0.len
  refine TO.runsG hP (by simp [d1, d3] <;> rfl) ?_
  try dsimp only [goK, q0a]
  refine TW.gen (fun m => m.get (h0.nx + 1) = some (.cells q0C [.int .i64 a]) ∧ m.get (h0.nx + 2) = some (.cells q0C [.int .i64 b]) ∧ m.get (h0.nx + 3) = some (.cells q0k [.nilsl, .nilsl]) ∧ m.get k.nx = some (.cells q0k [tv0, fv0]) ∧ Wid k m ∧ m.nx = k.nx + 1) ⟨?_, ?_, ?_, ?_, ?_, ?_⟩ fun m hm => ?_
  ·rw [get_put, if_neg (by omega), get_new, if_neg (by omega)]; exact k1
  ·rw [get_put, if_neg (by omega), get_new, if_neg (by omega)]; exact k2
  ·rw [get_put, if_neg (by omega), get_new, if_neg (by omega)]; exact k3
  ·rw [get_put, if_pos rfl]
  ·exact ((Wid.refl k).new _).put (Nat.le_refl _) _
  ·rw [nx_put, nx_new]
  obtain ⟨m1, m2, m3, m4, hwm, hnm⟩ := hm
  dsimp only [q0k, q0C] at m1 m2 m3 m4
  have hq1 := hO.q0
  have hSb : ∀ s, Sb s → s < k.nx := fun s hs => (hO.rng s (hO.sub s hs)).2
  have hqm : m.get q = _ := (hwm.get q hq1.2.1).trans hO.obj
  have hBm := SlO.locl BlkO.locl _ m _ Sb hO.blk (fun _ h => h) (q5P hwm hSb)
  repeat' first | refine TW.seq ?_ | refine TW.skip ?_ | refine TW.condF hP rfl ?_ | (refine TW.regG hP (by simp <;> rfl) ?_; dsimp only [goK])
  refine TO.ccall hP q5W (many_mem hP q (q0i p x) bv x.blocks.list Sb hsp (by omega) (by omega) m hqm (by omega) hBm (fun s hs => by have := hSb s hs; omega)) (by simp) rfl rfl rfl rfl (fun v4 g4 ⟨hw4, hv4⟩ => ?_)
  rw [← hrg] at hv4
  subst hv4
  have q1 : g4.get (h0.nx + 1) = _ := (hw4.get _ (by omega)).trans m1
  have q2 : g4.get (h0.nx + 2) = _ := (hw4.get _ (by omega)).trans m2
  have q3 : g4.get (h0.nx + 3) = _ := (hw4.get _ (by omega)).trans m3
  have q4 : g4.get k.nx = _ := (hw4.get _ (by omega)).trans m4
  have nw4 := hw4.nx
  refine TO.runsG hP (by simp <;> rfl) ?_
  try dsimp only [goK, q0a]
  by_cases hab : a < 0 ∨ b < 0 ∨ q0w p x ≤ a ∨ q0w p x ≤ b
  ·rw [if_pos hab] at he
   have fin : ∀ m' : Hp, m' = g4.put (h0.nx + 1 + 1 + 1) (.cells 25 [.nilsl, .nilsl]) → Wid h0 m' ∧ ((q8H p n a b ≠ 0 ∧ AV.tup [noV, .int .i64 2] = .tup [noV, .int .i64 (q8H p n a b)]) ∨ (q8H p n a b = 0 ∧ ∃ x u, p.funcs.list[(n : Int).toNat]? = some x ∧ q0K p n = 0 ∧ AV.tup [noV, .int .i64 2] = .tup [u, .int .i64 0] ∧ ProgM h0.nx p.types.list (setF p (n : Int).toNat x (x.blocks.list.map (q7c (swapT a b)))) u m')) := fun m' hm => by
    subst hm
    refine ⟨?_, .inl ⟨by rw [he]; decide, by rw [he]⟩⟩
    exact (((hw0.trans hwk).trans hwm).trans hw4).put (by omega) _
   by_cases hmn : (if b < a then b else a) < 0
   ·repeat' first | refine TW.seq ?_ | refine TW.condT hP rfl ?_ | (refine TW.regG hP (by simp [q1, q2, q3, hmn] <;> rfl) ?_; dsimp only [goK]) | simp only [q0a]
    refine TW.ret ⟨.inr rfl, _, [noV, .int .i64 2], rfl, by simp [resK, get_put, noV], fin _ rfl⟩
   ·have hmx : q0w p x ≤ (if a < b then b else a) := by
     split at hmn <;> split <;> omega
    repeat' first | refine TW.seq ?_ | refine TW.condT hP rfl ?_ | (refine TW.regG hP (by simp [q1, q2, q3, hmn, hmx] <;> rfl) ?_; dsimp only [goK]) | simp only [q0a]
    refine TW.ret ⟨.inr rfl, _, [noV, .int .i64 2], rfl, by simp [resK, get_put, noV], fin _ rfl⟩
  ·rw [if_neg hab] at he
   have hmn : ¬ (if b < a then b else a) < 0 := by split <;> omega
   have hmx : ¬ q0w p x ≤ (if a < b then b else a) := by split <;> omega
   refine TW.seq (TW.regG hP (by simp [q1, q2, hmn, hmx] <;> rfl) ?_)
   dsimp only [goK, q0a, q0f, q0d]
   first | refine TW.condF hP rfl (TW.skip ?_)
   dsimp only [q0a]
   have hfz : ∀ (r : Nat) (i : Int) (g : Hp), g.get r = some (.cells 3 [.int .i64 i]) → frzV 2 g (.ptr r 0) = some (.iptr [[.int .i64 i]] 0 0) := fun r i g hg => by
    unfold frzV
    dsimp only
    rw [hg]
    rfl
   refine TW.freeze (l' := [(6, .iptr [[.int .i64 a]] 0 0), (7, .iptr [[.int .i64 b]] 0 0), (8, .ptr (h0.nx + 3) 0), (10, .ptr k.nx 0), (11, .ptr q 0)]) (fun s => s = h0.nx + 1 ∨ s = h0.nx + 2) (q6U (k := 2) rfl (fun g hg => hfz _ _ g ((hg _ (.inl rfl)).trans q1)) (q6U (k := 2) rfl (fun g hg => hfz _ _ g ((hg _ (.inr rfl)).trans q2)) (q1M rfl (q1M rfl (q1M rfl frz_nil))))) ?_
   generalize hW : (g4.wo fun s => s = h0.nx + 1 ∨ s = h0.nx + 2) = w
   have hwo : ∀ s, s ≠ h0.nx + 1 → s ≠ h0.nx + 2 → w.get s = g4.get s := fun s h1 h2 => by rw [← hW]; exact q8p fun h => h.elim h1 h2
   have hwn : w.nx = g4.nx := by rw [← hW, wo_nx]
   have hrng : ∀ s, W s → g.nx ≤ s ∧ s < k.nx := hO.rng
   have hcp : ∀ s, g.nx ≤ s → s < k.nx → w.get s = k.get s := fun s h1 h2 => by rw [hwo s (by omega) (by omega), hw4.get s (by omega), hwm.get s h2]
   have hBw := SlO.locl BlkO.locl _ w _ Sb hO.blk (fun _ h => h) fun s hs => hcp s (hrng s (hO.sub s hs)).1 (hrng s (hO.sub s hs)).2
   have hto : ToFn F q8e [.iptr [[.int .i64 a]] 0 0, .iptr [[.int .i64 b]] 0 0] (swapT a b) (fun r => 0 ≤ r ∧ r < (q0w p x).toNat) := ⟨fun r h => swap1_pure hP a b r, _, E_tidy_Swap_1, rfl⟩
   repeat' first | refine TW.seq ?_ | (refine TW.regG hP (by simp <;> rfl) ?_; dsimp only [goK])
   refine TO.ccall hP q5V (turn_mem hP hX hV.G hto rfl q (q0i p x) bv x.blocks.list Sb w hsp (by omega) (by omega) ((hcp q hq1.1 hq1.2.1).trans hO.obj) (by omega) (fun h => hq1.2.2 (hO.sub q h)) hBw (fun s hs => by have := hSb s hs; omega) (rdB_of hmf hsx hox)) (by simp) rfl rfl rfl rfl (fun v5 g5 ⟨p1, p2, p3⟩ => ?_)
   refine TO.runsG hP (by simp <;> rfl) ?_
   try dsimp only [goK]
   obtain ⟨tv1, fv1, ST1, SF1, hv1, hT1, hF1, hST1, hSF1⟩ := hO.close g5 _ Sb (fun s h1 h2 => (p2 s (by have := hrng s h1; omega) h2).trans (hcp s (hrng s h1).1 (hrng s h1).2)) (fun s hs => .inl hs) p3
   cases hv1
   have hq10 : g5.get k.nx = _ := (p2 k.nx (by omega) fun h => by have := hSb _ h; omega).trans ((hwo _ (by omega) (by omega)).trans q4)
   have hq8 : g5.get (h0.nx + 3) = _ := (p2 _ (by omega) fun h => by have := hrng _ (hO.sub _ h); omega).trans ((hwo _ (by omega) (by omega)).trans q3)
   repeat' first | refine TW.seq ?_ | (refine TW.regG hP (by simp [hq10, hq8, d1, d3] <;> rfl) ?_; dsimp only [goK]) | simp only [q0a]
   have hpm : ProgM g.nx p.types.list (setF p n x (x.blocks.list.map (q7c (swapT a b)))) (.agg [tv0, fv0]) g5 := by
    refine ⟨tv0, fv0, ST1, SF1, rfl, hT1, hF1, fun s hs => ?_, fun s hs => ?_⟩
    ·have := hrng s (hST1 s hs).1
     exact ⟨this.1, by omega, (hST1 s hs).2⟩
    ·have := (hSF1 s hs).elim (hrng s) fun h => hrng s (hO.sub s h)
     omega
   refine TW.ret ⟨.inr rfl, _, [.agg [tv0, fv0], .int .i64 0], rfl, by simp [resK, get_put], ?_⟩
   refine ⟨⟨by rw [nx_put]; have := hw0.nx; omega, fun s hs => ?_⟩, .inr ⟨he, x, _, hx, ha, rfl, ?_⟩⟩
   ·rw [get_put, if_neg (by omega), p2 s (by omega) fun h => (by have := hrng s (hO.sub s h); omega), hwo s (by omega) (by omega), hw4.get s (by omega), hwm.get s (by omega), hwk.get s (by omega), hw0.get s hs]
   ·exact ((hpm.put (m := g5.put (h0.nx + 3) (.cells 25 [tv0, fv0])) (by rw [nx_put]; exact Nat.le_refl _) fun s h1 h2 => by rw [get_put, if_neg (by omega)]).low (by omega))
end Go.Ax
set_option maxRecDepth 20000
noncomputable section
namespace Go.Ax
open Go.Proofs
attribute [local irreducible] TW TO CallsT q0y
variable {F : Nat → Option Obj} {gl : Nat → AV} {K : Knob} {S S' : Nat → Prop} {X : Type}
def cpt (l : List Int) : List Int := Lib.compact (sortI l)
def outT (params most : Int) (r : Int) : Bool := decide (r < params) || decide (most ≤ r)
def q7I (p : LProg) (f : Int) (l : List Int) : Int := if q0K p f = 0 then (match p.funcs.list[f.toNat]? with
 | some x => if (cpt l).any (outT (q0i p x) (q0w p x)) = true then 2 else if (q9Y (cpt l) (q0i p x) x.blocks.list).any (fun r => (cpt l).any fun y => decide (r = y)) = true then 2 else 0
 | none => 0) else q0K p f
def dropT (l : List Int) : Int → Int := fun r => r - ahead l r
theorem cpt_len (l : List Int) : (cpt l).length ≤ l.length := by
 have := compact_len (sortI l)
 rw [z1t] at this
 exact this
theorem flatMap_le {Y : Type} {f : X → List Y} {c : Nat} : ∀ (l : List X), (∀ x ∈ l, (f x).length ≤ c) → (l.flatMap f).length ≤ c * l.length
  | [], _ => by simp
  | a :: l, h => by
    rw [List.flatMap_cons, List.length_append, List.length_cons, Nat.mul_add, Nat.mul_one]
    have h1 := h a List.mem_cons_self
    have h2 := flatMap_le l fun x hx => h x (List.mem_cons_of_mem _ hx)
    omega
theorem readsP_len {ls : List Int} {params : Int} {bl : List LBlock} (ha : ∀ b ∈ bl, ∀ y ∈ b.ins.list, y.args.list.length ≤ 20) : ((q9Y ls params bl).length : Int) ≤ 22 * q0q bl + bl.length := by
  unfold q9Y
  rw [List.length_append]
  have h1 : (bl.flatMap fun b => q2g b.ed).length ≤ 1 * bl.length := flatMap_le bl fun b _ => endsS_le b.ed
  have key : ∀ (l : List LBlock) (n : Nat), (∀ b ∈ l, b ∈ bl) → (((l.zipIdx n).flatMap (rdsB ls params bl)).length : Int) ≤ 22 * q0q l := by
    intro l
    induction l with
    | nil => intro n _; simp [q0q]
    | cons b l ih =>
      intro n hb
      rw [List.zipIdx_cons, List.flatMap_cons, List.length_append]
      have h2 := ih (n + 1) fun x hx => hb x (List.mem_cons_of_mem _ hx)
      have h3 : (rdsB ls params bl (b, n)).length ≤ 22 * b.ins.list.zipIdx.length := by
        unfold rdsB
        refine flatMap_le _ fun y hy => ?_
        have hym : y.1 ∈ b.ins.list := by
          obtain ⟨i, hi, he⟩ := List.getElem_of_mem hy
          rw [← he]; simp
        have h4 := uses6_le y.1
        have h5 := ha b (hb b List.mem_cons_self) y.1 hym
        unfold rdsI
        split
        · simp
        · omega
      rw [List.length_zipIdx] at h3
      simp only [q0q]
      omega
  have h2 := key bl 0 fun _ h => h
  omega
theorem dropC_mem (hP : POk Tryz.prog F gl K) (c : Nat) (ls : Sl Int) (r : Int) (g : Hp) (hc : g.get c = some (.cells 26 [ls.av cI])) (hlen : ls.list.length < 1000000) :
  CallsT Tryz.prog F g (fun v h => h = g ∧ v = .bool (ls.list.any fun y => decide (r = y))) q6i [.int .i64 r, .ptr c 0] := by
 refine CallsT.body hP q0e E_tidy_Drop_2 rfl rfl ?_
 repeat' first | refine TW.seq ?_ | (refine TW.regG hP (by simp [hc] <;> rfl) ?_; dsimp only [goK]) | (refine TO.scall hP q1o (q6m hP ls r hlen) ?_ rfl rfl rfl rfl ?_; (focus (simp; done)); refine TO.runsG hP (by simp <;> rfl) ?_; dsimp only [goK]) | simp only [q0a] | (refine TW.ret ⟨.inr rfl, _, _, rfl, rfl, ?_⟩; dsimp only [q0h])
 all_goals first | exact ⟨trivial, trivial⟩
set_option maxHeartbeats 4000000 in
theorem Drop_mem (hV : Env F gl K) (p : LProg) (f : Int) (l : Sl Int) (hl : l.list.length < 1000000) (hs : SmallP p) (ho : OpsP p) (ha20 : ∀ x ∈ p.funcs.list, ∀ b ∈ x.blocks.list, ∀ y ∈ b.ins.list, y.args.list.length ≤ 20) (h0 : Hp) :
  CallsT Tryz.prog F h0 (fun v g => Wid h0 g ∧ ((q7I p f l.list ≠ 0 ∧ v = .tup [noV, .int .i64 (q7I p f l.list)]) ∨ (q7I p f l.list = 0 ∧ ∃ x u, p.funcs.list[f.toNat]? = some x ∧ q0K p f = 0 ∧ v = .tup [u, .int .i64 0] ∧ ProgM h0.nx p.types.list (setF p f.toNat x ((z0i (cpt l.list) (q0i p x) x.blocks.list).map (q7c (dropT (cpt l.list))))) u g))) q3o [.agg p.cells, .int .i64 f, l.av cI] := by
 have hP := hV.P
 have hX := hV.X
 refine CallsT.body hP q0e E_tidy_Drop rfl rfl ?_
 refine TW.seq (TW.regG hP (by simp <;> rfl) ?_)
 dsimp only [goK, q0a, q0f, q0d]
 refine TW.gen (fun g => g.get h0.nx = some (.cells q0k p.cells) ∧ g.get (h0.nx + 1) = some (.cells q0u [l.av cI]) ∧ g.get (h0.nx + 2) = some (.cells q0k [.nilsl, .nilsl]) ∧ Wid h0 g ∧ g.nx = h0.nx + 3) ⟨by simp [show ¬ h0.nx + 1 + 1 = h0.nx by omega], by simp <;> omega, by simp <;> omega, (((Wid.refl h0).new _).new _).new _, by simp⟩ fun g hg => ?_
 obtain ⟨g0, g1, g2, hw0, hn0⟩ := hg
 dsimp only [q0k, q0u, LProg.cells] at g0 g1 g2
 repeat' first | refine TW.seq ?_ | (refine TW.regG hP (by simp [g0] <;> rfl) ?_; dsimp only [goK])
 refine TO.ccall hP I_tidy_of (of_mem hV p f hs ho g) (by simp) rfl rfl rfl rfl (fun v k ⟨hwk, hv⟩ => ?_)
 have nk := hwk.nx
 have k1 : k.get (h0.nx + 1) = _ := (hwk.get _ (by omega)).trans g1
 have k2 : k.get (h0.nx + 2) = _ := (hwk.get _ (by omega)).trans g2
 rcases hv with ⟨hne, rfl⟩ | ⟨ha, x, u, q, bv, Sb, W, hx, rfl, hO⟩
 ·refine TO.runsG hP (by simp <;> rfl) ?_
  try dsimp only [goK, q0a]
  refine TW.gen (fun m => m.get (h0.nx + 2) = some (.cells 25 [.nilsl, .nilsl]) ∧ Wid h0 m ∧ h0.nx + 3 ≤ m.nx) ⟨?_, ?_, ?_⟩ fun m hm => ?_
  ·rw [get_put, if_neg (by omega), get_put, if_neg (by omega), get_new, if_neg (by rw [nx_new]; omega), get_new, if_neg (by omega)]; exact k2
  ·exact ((((hw0.trans hwk).new _).new _).put (by omega) _).put (by omega) _
  ·rw [nx_put, nx_put, nx_new, nx_new]; omega
  obtain ⟨m2, hwm, hnm⟩ := hm
  repeat' first | refine TW.seq ?_ | refine TW.condT hP rfl ?_ | (refine TW.regG hP (by simp [m2, hne] <;> rfl) ?_; dsimp only [goK]) | simp only [q0a]
  have he : q7I p f l.list = q0K p f := by unfold q7I; rw [if_neg hne]
  refine TW.ret ⟨.inr rfl, _, [noV, .int .i64 (q0K p f)], rfl, by simp [resK, get_put, noV], ?_⟩
  rw [he]
  refine ⟨?_, .inl ⟨hne, rfl⟩⟩
  exact hwm.put (by omega) _
 ·obtain ⟨c1, c2, c3⟩ := q4P ha
  obtain ⟨n, rfl⟩ := Int.eq_ofNat_of_zero_le c2
  have hxm := List.mem_of_getElem? hx
  have hmf := (q2d c1).2.1 x hxm
  obtain ⟨a1, a2, a3, a4, a5, a6⟩ := q2M hmf
  obtain ⟨r1, r2⟩ := q6z hmf hs.parts
  have hsx := hs.funcs x hxm
  have hox := ho.op x hxm
  have hm0 := q0J x.blocks.list
  have hsp : 0 ≤ q0i p x := by unfold q0i; split <;> omega
  have hrg : q0w p x = q0i p x + q0q x.blocks.list := rfl
  have he : q7I p n l.list = if (cpt l.list).any (outT (q0i p x) (q0w p x)) = true then 2 else if (q9Y (cpt l.list) (q0i p x) x.blocks.list).any (fun r => (cpt l.list).any fun y => decide (r = y)) = true then 2 else 0 := by
   unfold q7I; rw [if_pos ha, hx]
  obtain ⟨tv0, fv0, ST0, SF0, rfl, hT0, hF0, _, _⟩ := hO.close k x.blocks.list Sb (fun _ _ _ => rfl) (fun s hs => .inl hs) hO.blk
  obtain ⟨_, _, d1, d2⟩ := hT0.len
  obtain ⟨_, _, d3, d4⟩ := hF0.len
  refine TO.runsG hP (by simp [d1, d3] <;> rfl) ?_
  try dsimp only [goK, q0a]
  refine TW.gen (fun m => m.get (h0.nx + 1) = some (.cells q0u [l.av cI]) ∧ m.get (h0.nx + 2) = some (.cells q0k [.nilsl, .nilsl]) ∧ m.get k.nx = some (.cells q0k [tv0, fv0]) ∧ m.get (k.nx + 1) = some (.cells 58 [.ptr q 0]) ∧ Wid k m ∧ m.nx = k.nx + 2) ⟨?_, ?_, ?_, ?_, ?_, ?_⟩ fun m hm => ?_
  ·rw [get_put, if_neg (by omega), get_put, if_neg (by omega), get_new, if_neg (by rw [nx_new]; omega), get_new, if_neg (by omega)]; exact k1
  ·rw [get_put, if_neg (by omega), get_put, if_neg (by omega), get_new, if_neg (by rw [nx_new]; omega), get_new, if_neg (by omega)]; exact k2
  ·rw [get_put, if_neg (by omega), get_put, if_pos rfl]
  ·rw [get_put, if_pos rfl]
  ·exact ((((Wid.refl k).new _).new _).put (Nat.le_refl _) _).put (by omega) _
  ·rw [nx_put, nx_put, nx_new, nx_new]
  obtain ⟨m1, m2, m3, m4, hwm, hnm⟩ := hm
  dsimp only [q0k, q0u] at m1 m2 m3
  have hq1 := hO.q0
  have hSb : ∀ s, Sb s → s < k.nx := fun s hs => (hO.rng s (hO.sub s hs)).2
  have hrng : ∀ s, W s → g.nx ≤ s ∧ s < k.nx := hO.rng
  repeat' first | refine TW.seq ?_ | refine TW.skip ?_ | refine TW.condF hP rfl ?_ | (refine TW.regG hP (by simp [m1] <;> rfl) ?_; dsimp only [goK])
  refine TO.ccall hP q8l (values_mem hP (q7y l) (q8U l)) (by simp) rfl rfl rfl rfl (fun v1 e1 ⟨w1, hv1, n1, b1⟩ => ?_)
  subst hv1
  refine TO.runsG hP (by simp <;> rfl) ?_
  try dsimp only [goK]
  refine TO.ccall hP z0H (sorted_mem hP hl b1 (by omega)) (by simp) rfl rfl rfl rfl (fun v2 e2 ⟨w2, o2⟩ => ?_)
  refine TO.runsG hP (by simp <;> rfl) ?_
  try dsimp only [goK]
  refine TO.ccall hP q7C (Compact_own (b := e1.nx) o2 (by rw [z1t]; exact hl)) (by simp) rfl rfl rfl rfl (fun v3 e3 ⟨lc, hlc, hv3, n3, s3⟩ => ?_)
  subst hv3
  have y3 : e3.get (h0.nx + 1) = _ := (s3 _ (by omega)).trans ((w2.get _ (by omega)).trans ((w1.get _ (by omega)).trans m1))
  refine TO.runsG hP (by simp [y3] <;> rfl) ?_
  try dsimp only [goK, q0a]
  have hlow : ∀ s, s < k.nx + 2 → s ≠ h0.nx + 1 → (e3.put (h0.nx + 1) (.cells 26 [lc.av cI])).get s = m.get s := fun s h1 h2 => by
   rw [get_put, if_neg (Ne.symm h2), s3 s (by omega), w2.get s (by omega), w1.get s (by omega)]
  have nw2 := w2.nx
  refine TW.gen (fun M => M.get (h0.nx + 1) = some (.cells 26 [lc.av cI]) ∧ k.nx + 2 ≤ M.nx ∧ ∀ s, s < k.nx + 2 → s ≠ h0.nx + 1 → M.get s = m.get s) ⟨by rw [get_put, if_pos rfl], by rw [nx_put]; omega, hlow⟩ fun M hM => ?_
  obtain ⟨M1, hMn, hMl⟩ := hM
  clear hlow s3 o2 w2 w1 b1 y3
  have hlc2 : lc.list = cpt l.list := hlc
  have hll := cpt_len l.list
  have hlcl : lc.list.length < 1000000 := by rw [hlc2]; omega
  have M2 : M.get (h0.nx + 2) = _ := (hMl _ (by omega) (by omega)).trans m2
  have M3 : M.get k.nx = _ := (hMl _ (by omega) (by omega)).trans m3
  have M4 : M.get (k.nx + 1) = _ := (hMl _ (by omega) (by omega)).trans m4
  have hcp : ∀ s, g.nx ≤ s → s < k.nx → M.get s = k.get s := fun s h1 h2 => by rw [hMl s (by omega) (by omega), hwm.get s h2]
  have hBM := SlO.locl BlkO.locl _ M _ Sb hO.blk (fun _ h => h) fun s hs => hcp s (hrng s (hO.sub s hs)).1 (hrng s (hO.sub s hs)).2
  have hqM : M.get q = _ := (hcp q hq1.1 hq1.2.1).trans hO.obj
  repeat' first | refine TW.seq ?_ | (refine TW.regG hP (by simp [M4] <;> rfl) ?_; dsimp only [goK])
  refine TO.ccall hP q5W (many_mem hP q (q0i p x) bv x.blocks.list Sb hsp (by omega) (by omega) M hqM (by omega) hBM (fun s hs => by have := hSb s hs; omega)) (by simp) rfl rfl rfl rfl (fun v4 g4 ⟨hw4, hv4⟩ => ?_)
  rw [← hrg] at hv4
  subst hv4
  refine TO.runsG hP (by simp <;> rfl) ?_
  try dsimp only [goK, q0a]
  have nw4 := hw4.nx
  have q1 : g4.get (h0.nx + 1) = _ := (hw4.get _ (by omega)).trans M1
  have q2 : g4.get (h0.nx + 2) = _ := (hw4.get _ (by omega)).trans M2
  have q3 : g4.get k.nx = _ := (hw4.get _ (by omega)).trans M3
  have q4 : g4.get (k.nx + 1) = _ := (hw4.get _ (by omega)).trans M4
  refine TW.gen (fun N => N.get g4.nx = some (.cells 3 [.int .i64 (q0w p x)]) ∧ Wid g4 N ∧ N.nx = g4.nx + 1) ⟨by simp, ((Wid.refl g4).new _).put (Nat.le_refl _) _, by simp⟩ fun N hN => ?_
  obtain ⟨b1, wN, nN⟩ := hN
  have N1 : N.get (h0.nx + 1) = _ := (wN.get _ (by omega)).trans q1
  have N2 : N.get (h0.nx + 2) = _ := (wN.get _ (by omega)).trans q2
  have N3 : N.get k.nx = _ := (wN.get _ (by omega)).trans q3
  have N4 : N.get (k.nx + 1) = _ := (wN.get _ (by omega)).trans q4
  have wMN := hw4.trans wN
  have wf : Wid h0 N := ⟨by have := hw0.nx; omega, fun s hs => by rw [wMN.get s (by omega), hMl s (by omega) (by omega), hwm.get s (by omega), hwk.get s (by omega), hw0.get s hs]⟩
  have fin : ∀ m' : Hp, (∃ N', Wid N N' ∧ m' = N'.put (h0.nx + 1 + 1) (.cells 25 [.nilsl, .nilsl])) → q7I p n l.list = 2 → Wid h0 m' ∧ ((q7I p n l.list ≠ 0 ∧ AV.tup [noV, .int .i64 2] = .tup [noV, .int .i64 (q7I p n l.list)]) ∨ (q7I p n l.list = 0 ∧ ∃ x u, p.funcs.list[(n : Int).toNat]? = some x ∧ q0K p n = 0 ∧ AV.tup [noV, .int .i64 2] = .tup [u, .int .i64 0] ∧ ProgM h0.nx p.types.list (setF p (n : Int).toNat x ((z0i (cpt l.list) (q0i p x) x.blocks.list).map (q7c (dropT (cpt l.list))))) u m')) := fun m' ⟨N', hw, hm⟩ h2 => by
   subst hm
   exact ⟨(wf.trans hw).put (by omega) _, .inl ⟨by rw [h2]; decide, by rw [h2]⟩⟩
  repeat' first | refine TW.seq ?_ | (refine TW.regG hP (by simp [N1] <;> rfl) ?_; dsimp only [goK])
  refine TO.qcall hP q0V (q7B hP lc q6j [.ptr (k.nx + 1) 0, .ptr g4.nx 0] (outT (q0i p x) (q0w p x)) I_tidy_Drop_1 N hlcl (fun y _ h' hw => (dropA_mem hP (k.nx + 1) g4.nx q (q0i p x) (q0w p x) y bv h' ((hw.get _ (by omega)).trans N4) ((hw.get _ (by omega)).trans b1) ((hw.get _ (by omega)).trans ((wMN.get _ (by omega)).trans hqM))).mono fun v g ⟨e1, e2⟩ => ⟨e2, by rw [e1]; exact .refl _⟩)) (by simp) rfl rfl rfl rfl fun N' wN' => ?_
  refine TO.runsG hP (by simp <;> rfl) ?_
  try dsimp only [goK]
  have nN' := wN'.nx
  have N1' : N'.get (h0.nx + 1) = _ := (wN'.get _ (by omega)).trans N1
  have N2' : N'.get (h0.nx + 2) = _ := (wN'.get _ (by omega)).trans N2
  have N3' : N'.get k.nx = _ := (wN'.get _ (by omega)).trans N3
  have N4' : N'.get (k.nx + 1) = _ := (wN'.get _ (by omega)).trans N4
  rw [hlc2]
  by_cases hc1 : (cpt l.list).any (outT (q0i p x) (q0w p x)) = true
  ·rw [if_pos hc1] at he
   rw [hc1]
   repeat' first | refine TW.seq ?_ | refine TW.condT hP rfl ?_ | (refine TW.regG hP (by simp [N2'] <;> rfl) ?_; dsimp only [goK]) | simp only [q0a]
   refine TW.ret ⟨.inr rfl, _, [noV, .int .i64 2], rfl, by simp [resK, get_put, noV], fin _ ⟨N', wN', rfl⟩ he⟩
  ·rw [if_neg hc1] at he
   rw [Bool.not_eq_true] at hc1
   rw [hc1]
   repeat' first | refine TW.seq ?_ | refine TW.skip ?_ | refine TW.condF hP rfl ?_ | (refine TW.regG hP (by simp [N4', N1'] <;> rfl) ?_; dsimp only [goK])
   have wMN' := wMN.trans wN'
   have hqN : N'.get q = _ := (wMN'.get _ (by omega)).trans hqM
   have hBN := SlO.locl BlkO.locl _ N' _ Sb hBM (fun _ h => h) fun s hs => wMN'.get s (by have := hSb s hs; omega)
   have hrl := readsP_len (ls := lc.list) (params := q0i p x) (ha20 x hxm)
   refine TO.ccall hP q9h (reads_mem hP hX hV.G q (q0i p x) bv x.blocks.list Sb lc N' hlcl hsp (by omega) (by omega) (by omega) hqN (by omega) hBN (fun s hs => by have := hSb s hs; omega) (fun b hb y hy => ⟨hox.op b hb y hy, ha20 x hxm b hb y hy⟩)) (by simp) rfl rfl rfl rfl (fun v5 g5 ⟨w5, o5⟩ => ?_)
   refine TO.runsG hP (by simp <;> rfl) ?_
   try dsimp only [goK]
   have G1 : g5.get (h0.nx + 1) = _ := (w5.get _ (by omega)).trans N1'
   refine TO.qcall hP q0V (q6G hP v5 (q9Y lc.list (q0i p x) x.blocks.list) q6i [.ptr (h0.nx + 1) 0] (fun r => lc.list.any fun y => decide (r = y)) I_tidy_Drop_2 g5 o5.rdI (by omega) (fun y _ h' hw => (dropC_mem hP (h0.nx + 1) lc y h' ((hw.get _ (by have := w5.nx; omega)).trans G1) hlcl).mono fun v g ⟨e1, e2⟩ => ⟨e2, by rw [e1]; exact .refl _⟩)) (by simp) rfl rfl rfl rfl fun g6 w6 => ?_
   refine TO.runsG hP (by simp <;> rfl) ?_
   try dsimp only [goK]
   have w56 := w5.trans w6
   have n56 := w56.nx
   have L1 : g6.get (h0.nx + 1) = _ := (w56.get _ (by omega)).trans N1'
   have L2 : g6.get (h0.nx + 2) = _ := (w56.get _ (by omega)).trans N2'
   have L3 : g6.get k.nx = _ := (w56.get _ (by omega)).trans N3'
   have L4 : g6.get (k.nx + 1) = _ := (w56.get _ (by omega)).trans N4'
   rw [hlc2]
   by_cases hc2 : (q9Y (cpt l.list) (q0i p x) x.blocks.list).any (fun r => (cpt l.list).any fun y => decide (r = y)) = true
   ·rw [if_pos hc2] at he
    rw [hc2]
    repeat' first | refine TW.seq ?_ | refine TW.condT hP rfl ?_ | (refine TW.regG hP (by simp [L2] <;> rfl) ?_; dsimp only [goK]) | simp only [q0a]
    refine TW.ret ⟨.inr rfl, _, [noV, .int .i64 2], rfl, by simp [resK, get_put, noV], fin _ ⟨g6, wN'.trans w56, rfl⟩ he⟩
   ·rw [if_neg hc2] at he
    rw [Bool.not_eq_true] at hc2
    rw [hc2]
    repeat' first | refine TW.seq ?_ | refine TW.skip ?_ | refine TW.condF hP rfl ?_ | (refine TW.regG hP (by simp [L4, L1] <;> rfl) ?_; dsimp only [goK])
    have wM6 := wMN'.trans w56
    have hq6 : g6.get q = _ := (wM6.get _ (by omega)).trans hqM
    have hB6 := SlO.locl BlkO.locl _ g6 _ Sb hBM (fun _ h => h) fun s hs => wM6.get s (by have := hSb s hs; omega)
    have hnk : ∀ b ∈ x.blocks.list, b.ins.list.length < 900000 := fun b hb => by have := z1x hb; omega
    refine TO.ccall hP q9L (drop_mem hP hX hV.G q (q0i p x) bv x.blocks.list Sb lc g6 hlcl hsp (by omega) (by omega) hnk hq6 (by omega) (fun h => hq1.2.2 (hO.sub q h)) hB6 (fun s hs => by have := hSb s hs; omega) (fun r => 0 ≤ r ∧ r < (q0w p x).toNat) (fun r hr => by omega) (rdB_of hmf hsx hox)) (by simp) rfl rfl rfl rfl (fun v7 g7 ⟨p1, p2, S7, p3, p4, p5⟩ => ?_)
    refine TO.runsG hP (by simp <;> rfl) ?_
    try dsimp only [goK]
    have h67 : ∀ s, g.nx ≤ s → s < k.nx → ¬ Sb s → g7.get s = k.get s := fun s h1 h2 h3 => by
     rw [p2 s (by omega) h3, wM6.get s (by omega)]; exact hcp s h1 h2
    obtain ⟨tv1, fv1, ST1, SF1, hv1, hT1, hF1, hST1, hSF1⟩ := hO.close g7 _ S7 (fun s h1 h2 => h67 s (hrng s h1).1 (hrng s h1).2 h2) (fun s hs => (p3 s hs).imp id fun h h2 => by have := hrng s h2; omega) p5
    cases hv1
    have hq10 : g7.get k.nx = _ := (p2 k.nx (by omega) fun h => by have := hSb _ h; omega).trans L3
    have hq8 : g7.get (h0.nx + 2) = _ := (p2 _ (by omega) fun h => by have := hrng _ (hO.sub _ h); omega).trans L2
    rw [hlc2] at hF1
    have hpm : ProgM g.nx p.types.list (setF p n x ((z0i (cpt l.list) (q0i p x) x.blocks.list).map (q7c (dropT (cpt l.list))))) (.agg [tv0, fv0]) g7 := by
     refine ⟨tv0, fv0, ST1, SF1, rfl, hT1, hF1, fun s hs => ?_, fun s hs => ?_⟩
     ·have := hrng s (hST1 s hs).1
      exact ⟨this.1, by omega, (hST1 s hs).2⟩
     ·rcases hSF1 s hs with h | h
      ·have := hrng s h; omega
      ·have := p4 s h
       rcases p3 s h with h | h
       ·have := hrng s (hO.sub s h); omega
       ·omega
    repeat' first | refine TW.seq ?_ | (refine TW.regG hP (by simp [hq10, hq8, d1, d3] <;> rfl) ?_; dsimp only [goK]) | simp only [q0a]
    refine TW.ret ⟨.inr rfl, _, [.agg [tv0, fv0], .int .i64 0], rfl, by simp [resK, get_put], ?_⟩
    have w06 := (wf.trans wN').trans w56
    refine ⟨⟨by rw [nx_put]; have := w06.nx; omega, fun s hs => ?_⟩, .inr ⟨he, x, _, hx, ha, rfl, ?_⟩⟩
    ·rw [get_put, if_neg (by omega), p2 s (by have := w06.nx; omega) fun h => (by have := hrng s (hO.sub s h); omega), w06.get s hs]
    ·exact ((hpm.put (m := g7.put (h0.nx + 2) (.cells 25 [tv0, fv0])) (by rw [nx_put]; exact Nat.le_refl _) fun s h1 h2 => by rw [get_put, if_neg (by omega)]).low (by omega))
def BndI (x : LIns) : Prop := x.args.list.length < 1000000
def BndB (b : LBlock) : Prop := b.ins.list.length < 1000000 ∧ ∀ x ∈ b.ins.list, BndI x
def BndF (f : LFunc) : Prop := f.blocks.list.length < 1000000 ∧ ∀ b ∈ f.blocks.list, BndB b
theorem bnd_set {B : X → Prop} {l : List X} {i : Nat} {a : X} (h : ∀ x ∈ l, B x) (ha : B a) : ∀ x ∈ l.set i a, B x := fun x hx => by
 rcases List.mem_or_eq_of_mem_set hx with h1 | rfl
 ·exact h x h1
 ·exact ha
set_option maxHeartbeats 4000000 in
theorem spoil_mem (hP : POk Tryz.prog F gl K) (tv fv : AV) (fl : List LFunc) (SF : Nat → Prop) (g : Hp) (htv : cellsOf tv = some [tv]) (htc : q0P tv = true) (hfn : fl.length < 1000000) (hB : ∀ f ∈ fl, BndF f) (hF : SlO AnyF (FunO AnyF) 2 q0R fv fl g SF) (hSF : ∀ s, SF s → s < g.nx) :
  CallsT Tryz.prog F g (fun _ m => g.nx ≤ m.nx ∧ ∀ s, s < g.nx → ¬ SF s → m.get s = g.get s) q4s [.agg [tv, fv]] := by
 refine CallsT.body hP q0e z0Y rfl rfl ?_
 obtain ⟨z1, z2, z3, z4⟩ := hF.len
 have hlv := fun h => q3F (C := Ctx.of Tryz.prog gl K) (t := q7O) (h := h) z1 z2
 dsimp only [q7O] at hlv
 refine TW.seq (TW.regG hP (by simp <;> rfl) ?_)
 dsimp only [goK, q0a, q0f, q0d]
 refine TW.gen (fun m => m.get g.nx = some (.cells 25 [tv, fv]) ∧ Wid g m ∧ g.nx < m.nx) ⟨by simp, (Wid.refl g).new _, by simp⟩ fun m hm => ?_
 obtain ⟨m0, hw, hn⟩ := hm
 have hF1 := SlO.locl FunO.locl _ m _ SF hF (fun _ h => h) (q5P hw hSF)
 repeat' first | refine TW.seq ?_ | refine TW.block ?_ | (refine TW.regG hP (by simp <;> rfl) ?_; dsimp only [goK])
 refine TW.loopL (fun i : Nat => [(1, .ptr g.nx 0), (2, .int .i64 i)]) (fun i m => i ≤ fl.length ∧ g.nx < m.nx ∧ m.get g.nx = some (.cells 25 [tv, fv]) ∧ (∀ s, s < g.nx → ¬ SF s → m.get s = g.get s) ∧ ∃ fl', fl'.length = fl.length ∧ (∀ f ∈ fl', BndF f) ∧ SlO AnyF (FunO AnyF) 2 q0R fv fl' m SF) (fun i => fl.length - i) (0) ?_ ?_ ?_
 focus (repeat' first | exact q0c | refine q0b (by simp) ?_)
 ·exact ⟨Nat.zero_le _, hn, m0, fun s h1 _ => hw.get s h1, fl, rfl, hB, hF1⟩
 clear m0 hw hn hF1 m
 rintro i m ⟨hi, w1, w2, w3, fl1, n1, b1, F1⟩
 repeat' first | refine TW.seq ?_ | (refine TW.regG hP (by simp [w2, hlv] <;> rfl) ?_; dsimp only [goK]) | simp only [q0a]
 refine TW.cond hP rfl (fun hc => TW.skip ?_) (fun hc => TW.exit ?_)
 ·simp at hc
  obtain ⟨f, hf⟩ := q0g (l := fl1) (i := i) (by omega)
  have hbf := b1 f (List.mem_of_getElem? hf)
  obtain ⟨xf, rf, rowsf, rowf, Sf, hvf, hrf, hgf, hrowsf, hrif, hrlf, hSf, ⟨uf, rfl, hIf⟩, wandf⟩ := F1.at FunO.locl hf
  have hfv : fv = .sl rf 0 fl.length fl.length 2 xf := by rw [hvf, n1]
  have hrfn := hSF rf hrf
  have hLf := fun t o => q2n (C := Ctx.of Tryz.prog gl K) (t := t) (o := o) hgf hrowsf hrif
  obtain ⟨y1, y2, y3, y4⟩ := hIf.len
  have hlb := fun h => q3F (C := Ctx.of Tryz.prog gl K) (t := q1D) (h := h) y1 y2
  dsimp only [q1D] at hlb
  dsimp only [q0a]
  repeat' first | refine TW.seq ?_ | refine TW.block ?_ | (refine TW.regG hP (by simp <;> rfl) ?_; dsimp only [goK])
  refine TW.loopL (fun k : Nat => [(1, .ptr g.nx 0), (2, .int .i64 i), (3, .int .i64 k)]) (fun k m' => k ≤ f.blocks.list.length ∧ m.nx ≤ m'.nx ∧ (∀ s, s < m.nx → ¬ Sf s → m'.get s = m.get s) ∧ ∃ bl', bl'.length = f.blocks.list.length ∧ (∀ b ∈ bl', BndB b) ∧ SlO AnyF (BlkO AnyF) 5 q0s uf bl' m' Sf) (fun k => f.blocks.list.length - k) (0) ?_ ?_ ?_
  focus (repeat' first | exact q0c | refine q0b (by simp) ?_)
  ·exact ⟨Nat.zero_le _, Nat.le_refl _, fun _ _ _ => rfl, _, rfl, hbf.2, hIf⟩
  rintro k m1 ⟨hk, v1, v2, bl1, n2, b2, B1⟩
  have hSfn : ∀ s, Sf s → s < g.nx ∧ s ≠ rf := fun s hs => ⟨hSF s (hSf s hs).1, (hSf s hs).2⟩
  have c2 : m1.get g.nx = _ := (v2 _ (by omega) fun h => by have := hSfn _ h; omega).trans w2
  have hg1 : m1.get rf = _ := (v2 rf (by omega) fun h => (hSfn _ h).2 rfl).trans hgf
  have hLf1 := fun t o => q2n (C := Ctx.of Tryz.prog gl K) (t := t) (o := o) hg1 hrowsf hrif
  have hi2 : i < fl.length := hc
  repeat' first | refine TW.seq ?_ | (refine TW.regG hP (by simp [c2, hfv, hLf1, q0L, q1h, hlb, hi2] <;> rfl) ?_; dsimp only [goK]) | simp only [q0a]
  refine TW.cond hP rfl (fun hc => TW.skip ?_) (fun hc => TW.exit ?_)
  ·simp at hc
   obtain ⟨b, hb⟩ := q0g (l := bl1) (i := k) (by omega)
   have hbb := b2 b (List.mem_of_getElem? hb)
   obtain ⟨xb, rb, rowsb, rowb, Sk, hvb, hrb, hgb, hrowsb, hrib, hrlb, hSk, ⟨ub, rfl, hIb⟩, wandb⟩ := B1.at BlkO.locl hb
   have hub : uf = .sl rb 0 f.blocks.list.length f.blocks.list.length 5 xb := by rw [hvb, n2]
   have hLb := fun t => q2i (C := Ctx.of Tryz.prog gl K) (t := t) hgb hrowsb hrib
   obtain ⟨p1, p2, p3, p4⟩ := hIb.len
   have hli := fun h => q3F (C := Ctx.of Tryz.prog gl K) (t := q3V) (h := h) p1 p2
   dsimp only [q3V] at hli
   have hk2 : k < f.blocks.list.length := hc
   have hSkn : ∀ s, Sk s → s < g.nx ∧ s ≠ rf ∧ s ≠ rb := fun s hs => ⟨(hSfn s (hSk s hs).1).1, (hSfn s (hSk s hs).1).2, (hSk s hs).2⟩
   dsimp only [q0a]
   repeat' first | refine TW.seq ?_ | refine TW.block ?_ | (refine TW.regG hP (by simp [c2, hfv, hLf1, q0L, q1h, hi2, hub, hLb, hk2] <;> rfl) ?_; dsimp only [goK])
   refine TW.loopL (fun j : Nat => [(1, .ptr g.nx 0), (2, .int .i64 i), (3, .int .i64 k), (4, ub), (5, .int .i64 j)]) (fun j m2 => j ≤ b.ins.list.length ∧ m1.nx ≤ m2.nx ∧ (∀ s, s < m1.nx → ¬ Sk s → m2.get s = m1.get s) ∧ ∃ il', il'.length = b.ins.list.length ∧ (∀ x ∈ il', BndI x) ∧ SlO AnyF (InsO OffF) 7 q0M ub il' m2 Sk) (fun j => b.ins.list.length - j) (0) ?_ ?_ ?_
   focus (repeat' first | exact q0c | refine q0b (by simp) ?_)
   ·exact ⟨Nat.zero_le _, Nat.le_refl _, fun _ _ _ => rfl, _, rfl, hbb.2, hIb⟩
   rintro j m2 ⟨hj, u1, u2, il1, n3, b3, I1⟩
   repeat' first | refine TW.seq ?_ | (refine TW.regG hP (by simp [hli] <;> rfl) ?_; dsimp only [goK]) | simp only [q0a]
   refine TW.cond hP rfl (fun hc => TW.skip ?_) (fun hc => TW.exit ?_)
   ·simp at hc
    obtain ⟨x, hx⟩ := q0g (l := il1) (i := j) (by omega)
    have hbx := b3 x (List.mem_of_getElem? hx)
    have hbx' : x.args.list.length < 1000000 := hbx
    obtain ⟨xi, ri, rowsi, rowi, Sn, hvi, hri, hgi, hrowsi, hrii, hrli, hSn, hInx, wandi⟩ := I1.at InsO.locl hx
    obtain ⟨va, vf, Sa, Sg, rfl, ha, hfr, hsa, hsg⟩ := hInx
    have hui : ub = .sl ri 0 b.ins.list.length b.ins.list.length 7 xi := by rw [hvi, n3]
    have hj2 : j < b.ins.list.length := hc
    have hSnn : ∀ s, Sn s → s < g.nx ∧ s ≠ ri := fun s hs => ⟨(hSkn s (hSn s hs).1).1, (hSn s hs).2⟩
    obtain ⟨a1, a2, a3, a4⟩ := ha.len
    have hla := fun h => q3F (C := Ctx.of Tryz.prog gl K) (t := q0u) (h := h) a1 a2
    dsimp only [q0u] at hla
    dsimp only [q0a]
    repeat' first | refine TW.seq ?_ | refine TW.block ?_ | (refine TW.regG hP (by simp <;> rfl) ?_; dsimp only [goK])
    refine TW.loopL (fun e : Nat => [(1, .ptr g.nx 0), (2, .int .i64 i), (3, .int .i64 k), (4, ub), (5, .int .i64 j), (6, .int .i64 e)]) (fun e m3 => e ≤ x.args.list.length ∧ m2.nx ≤ m3.nx ∧ (∀ s, s < m2.nx → ¬ Sa s → m3.get s = m2.get s) ∧ ∃ al : List Int, al.length = x.args.list.length ∧ IntO OffF va al m3 Sa) (fun e => x.args.list.length - e) (0) ?_ ?_ ?_
    focus (repeat' first | exact q0c | refine q0b (by simp) ?_)
    ·exact ⟨Nat.zero_le _, Nat.le_refl _, fun _ _ _ => rfl, _, rfl, ha⟩
    rintro e m3 ⟨he, t1, t2, al, n4, ha4⟩
    have hg3 : m3.get ri = _ := (t2 ri (by have := hSkn ri hri; omega) fun h => (hSnn _ (hsa _ h).1).2 rfl).trans hgi
    have hLi := fun t o => q2n (C := Ctx.of Tryz.prog gl K) (t := t) (o := o) hg3 hrowsi hrii
    repeat' first | refine TW.seq ?_ | (refine TW.regG hP (by simp [hui, hLi, q0L, q1h, hla, hj2] <;> rfl) ?_; dsimp only [goK]) | simp only [q0a]
    refine TW.cond hP rfl (fun hc => TW.skip ?_) (fun hc => TW.exit ?_)
    ·simp at hc
     obtain ⟨w, hw⟩ := q0g (l := al) (i := e) (by omega)
     rcases ha4 with ⟨h1, _⟩ | ⟨ra, fa, hfa, hne, hva, hra, hga⟩
     ·rw [h1] at n4; simp at n4; omega
     have hSt := storeI (C := Ctx.of Tryz.prog gl K) (v := -7) hga hw
     have he2 : e < al.length := by omega
     dsimp only [q0a]
     repeat' first | refine TW.seq ?_ | refine TW.block ?_ | (refine TW.regG hP (by simp [hLi, q0L, q1h, hj2, hva, hSt, -storeAt, sz1, he2] <;> rfl) ?_; dsimp only [goK]) | simp only [q0d]
     have hran : ra < m2.nx := by have := hSnn ra (hsa ra hra).1; omega
     refine ⟨e + 1, by omega, trivial, ?_, by omega, by rw [nx_put]; exact t1, fun s h1 h2 => ?_, al.set e (-7), by simp [n4], .inr ⟨ra, fa, hfa, ?_, by rw [hva, List.length_set], hra, ?_⟩⟩
     ·repeat' first | exact q0c | refine q0b (by simp [hui, w64s (show e < 9000000000000000000 by omega)]) ?_
     ·rw [get_put, if_neg (fun h : ra = s => h2 (h ▸ hra))]; exact t2 s h1 h2
     ·intro h; have h2 := congrArg List.length h; rw [List.length_set, List.length_nil] at h2; omega
     ·rw [get_put, if_pos rfl, List.map_set]
    ·simp at hc
     have hSt := store10 (C := Ctx.of Tryz.prog gl K) (v := .int .u8 99) hg3 hrowsi hrii rfl rfl (by omega)
     dsimp only [q0M] at hSt
     have hriSa : ¬ Sa ri := fun h => (hSnn _ (hsa _ h).1).2 rfl
     have hrin : ri < m2.nx := by have := hSkn ri hri; omega
     dsimp only [q0a]
     repeat' first | (refine TW.regG hP (by simp [hj2, hSt, -storeAt, sz1] <;> rfl) ?_; dsimp only [goK]) | simp only [q0d]
     have hfr3 : ∀ s, s < m2.nx → ¬ Sa s → s ≠ ri → (m3.put ri (.cells 52 (rowsi.set j [.int .u8 99, .int .i64 x.type, .int .i64 x.a, .int .i64 x.b, .int .i64 x.n, va, vf]).flatten)).get s = m2.get s := fun s h1 h2 h3 => by
      rw [get_put, if_neg (Ne.symm h3)]; exact t2 s h1 h2
     have hSan : ∀ s, Sa s → s ≠ ri := fun s h => (hSnn s (hsa s h).1).2
     refine ⟨j + 1, by omega, trivial, ?_, by omega, by rw [nx_put]; omega, fun s h1 h2 => ?_, il1.set j { x with op := 99, args := .mk al }, by simp [n3], bnd_set b3 (show al.length < 1000000 by omega), ?_⟩
     ·repeat' first | exact q0c | refine q0b (by simp [hui, w64s (show j < 9000000000000000000 by have := hbb.1; omega)]) ?_
     ·rw [hfr3 s (by omega) (fun h => h2 (hSn s (hsa s h).1).1) fun h => h2 (h ▸ hri)]; exact u2 s h1 h2
     ·refine wandi _ Sn _ [.int .u8 99, .int .i64 x.type, .int .i64 x.a, .int .i64 x.b, .int .i64 x.n, va, vf] rfl (by rw [get_put, if_pos rfl]) (fun s h1 h2 h3 => hfr3 s (by have := hSkn s h1; omega) (fun h => h2 (hsa s h).1) h3) (fun s hs => .inl hs) ⟨va, vf, Sa, Sg, rfl, ?_, ?_, hsa, hsg⟩ _ (fun s hs => hs) (fun s hs => (hSn s hs).1)
      ·exact IntO.locl _ _ _ _ ha4 (fun _ h => h) fun s hs => by rw [get_put, if_neg (Ne.symm (hSan s hs))]
      ·exact IntO.locl _ _ _ _ hfr (fun _ h => h) fun s hs => hfr3 s (by have := hSnn s (hsg s hs); omega) (fun h => (hsa s h).2 hs) (hSnn s (hsg s hs)).2
   ·simp at hc
    dsimp only [q0a]
    repeat' first | (refine TW.regG hP (by simp <;> rfl) ?_; dsimp only [goK]) | simp only [q0d]
    refine ⟨k + 1, by omega, trivial, ?_, by omega, by omega, fun s h1 h2 => ?_, bl1.set k { ins := .mk il1, ed := b.ed }, by simp [n2], bnd_set b2 ⟨by show il1.length < 1000000; have := hbb.1; omega, b3⟩, ?_⟩
    ·repeat' first | exact q0c | refine q0b (by simp [w64s (show k < 9000000000000000000 by have := hbf.1; omega)]) ?_
    ·rw [u2 s (by omega) fun h => h2 (hSk s h).1]; exact v2 s h1 h2
    ·refine wandb m2 Sk { ins := .mk il1, ed := b.ed } (ub :: b.ed.cells) rfl ?_ (fun s h1 h2 h3 => u2 s (by have := hSfn s h1; omega) h2) (fun s hs => .inl hs) ⟨ub, rfl, I1⟩ _ (fun s hs => hs) (fun s hs => (hSk s hs).1)
     rw [q5A hrib]
     exact (u2 rb (by have := hSfn rb hrb; omega) fun h => (hSk _ h).2 rfl).trans hgb
  ·simp at hc
   dsimp only [q0a]
   repeat' first | (refine TW.regG hP (by simp <;> rfl) ?_; dsimp only [goK]) | simp only [q0d]
   refine ⟨i + 1, by omega, trivial, ?_, by omega, by omega, (v2 _ w1 fun h => by have := hSfn _ h; omega).trans w2, fun s h1 h2 => ?_, fl1.set i { sig := f.sig, blocks := .mk bl1 }, by simp [n1], bnd_set b1 ⟨by show bl1.length < 1000000; have := hbf.1; omega, b2⟩, ?_⟩
   ·repeat' first | exact q0c | refine q0b (by simp [w64s (show i < 9000000000000000000 by omega)]) ?_
   ·rw [v2 s (by omega) fun h => h2 (hSf s h).1]; exact w3 s h1 h2
   ·refine wandf m1 Sf { sig := f.sig, blocks := .mk bl1 } [.int .i64 f.sig, uf] rfl ?_ (fun s h1 h2 h3 => v2 s (by have := hSF s h1; omega) h2) (fun s hs => .inl hs) ⟨uf, rfl, B1⟩ _ (fun s hs => hs) (fun s hs => (hSf s hs).1)
    rw [q5A hrif]
    exact hg1
 ·simp at hc
  dsimp only [q0a]
  repeat' first | simp only [q0f, q0d, ↓reduceIte]
  exact ⟨.inl rfl, m, [], rfl, rfl, by omega, w3⟩
def ResV (fl : Bool → Prop) (e : Int) (tl : List LType) (fs : List LFunc) (v : AV) (h : Hp) (S : Nat → Prop) : Prop :=
 (e ≠ 0 ∧ v = .tup [noV, .int .i64 e]) ∨ (e = 0 ∧ ∃ tv fv ST SF, v = .tup [.agg [tv, fv], .int .i64 0] ∧ SlO fl (TypO fl) 4 q1W tv tl h ST ∧ SlO fl (FunO fl) 2 q0R fv fs h SF ∧ (∀ s, ST s → S s ∧ ¬ SF s) ∧ ∀ s, SF s → S s)
theorem ResV.locl {fl : Bool → Prop} {e : Int} {tl : List LType} {fs : List LFunc} {v : AV} : Locl (ResV fl e tl fs v) := fun h g S S' H hS hg => by
 rcases H with H | ⟨he, tv, fv, ST, SF, h1, h2, h3, h4, h5⟩
 ·exact .inl H
 ·exact .inr ⟨he, tv, fv, ST, SF, h1, SlO.locl TypO.locl _ _ _ _ h2 (fun _ h => h) fun s hs => hg s (h4 s hs).1, SlO.locl FunO.locl _ _ _ _ h3 (fun _ h => h) fun s hs => hg s (h5 s hs), fun s hs => ⟨hS s (h4 s hs).1, (h4 s hs).2⟩, fun s hs => hS s (h5 s hs)⟩
theorem RenL.tup {σ : Nat → Nat} {U : Nat → Prop} {l k : List AV} (h : RenL σ U l k) : Ren σ U (.tup l) (.tup k) := .tup h.len h.at'
theorem ResV.rig (e : Int) (tl : List LType) (fs : List LFunc) : RigV (ResV OffF e tl fs) (ResV AnyF e tl fs) := by
 intro v1 h1 S1 v2 h2 S2 H1 H2
 rcases H1 with ⟨he, rfl⟩ | ⟨he, tv, fv, ST, SF, rfl, a2, a3, a4, a5⟩ <;> rcases H2 with ⟨he', rfl⟩ | ⟨he', tv', fv', ST', SF', rfl, b2, b3, b4, b5⟩
 ·exact ⟨_, _, .nil, .bare rfl⟩
 ·exact absurd he' he
 ·exact absurd he he'
 ·obtain ⟨σ, U, H, hr⟩ := SlO.rig (es := 4) (eT := q1W) (fun a _ => TypO.rig a) tv h1 ST tv' h2 ST' a2 b2
  obtain ⟨τ, V, K, kr⟩ := SlO.rig (es := 2) (eT := q0R) (fun a _ => FunO.rig a) fv h1 SF fv' h2 SF' a3 b3
  obtain ⟨ρ, W, T, u, v⟩ := H.pair K a4 a5 b4 b5
  exact ⟨ρ, W, T, RenL.tup (.cons (RenL.agg (.cons (hr.mono u) (.cons (kr.mono v) .nil))) (.cons (.bare rfl) .nil))⟩
theorem ResV.ex (e : Int) (tl : List LType) (fs : List LFunc) : ExV (ResV OffF e tl fs) := by
 intro h hw
 by_cases he : e = 0
 ·obtain ⟨u, h1, S, p1, p2, p3, p4⟩ := SlO.ex (es := 4) (eT := q1W) TypO.locl TypO.len (fun a (_ : a ∈ tl) => TypO.ex a) h hw
  obtain ⟨u2, h2, S2, q1, q2, q3, q4⟩ := SlO.ex (es := 2) (eT := q0R) FunO.locl FunO.len (fun a (_ : a ∈ fs) => FunO.ex a) h1 p3
  have := p2.nx; have := q2.nx
  exact ⟨_, h2, fun s => h.nx ≤ s ∧ s < h2.nx, .inr ⟨he, u, u2, S, S2, rfl, SlO.locl TypO.locl _ _ _ _ p1 (fun _ h => h) fun s hs => q2.get s (p4 s hs).2, q1, fun s hs => ⟨⟨(p4 s hs).1, by have := p4 s hs; omega⟩, fun hs2 => by have := p4 s hs; have := q4 s hs2; omega⟩, fun s hs => by have := q4 s hs; omega⟩, p2.trans q2, q3, fun s hs => hs⟩
 ·exact ⟨_, h, fun _ => False, .inl ⟨he, rfl⟩, .refl h, hw, fun _ h => h.elim⟩
def q1b (x : LType) : LType := { x with parts := .mk x.parts.list }
def q1w (b : LBlock) : LBlock := { ins := .mk (b.ins.list.map q3g), ed := b.ed }
def q0O (f : LFunc) : LFunc := { sig := f.sig, blocks := .mk (f.blocks.list.map q1w) }
def z0n (tl : List LType) (fs : List LFunc) : LProg := { types := .mk (tl.map q1b), funcs := .mk (fs.map q0O) }
theorem IntO.rdF {v : AV} {l : List Int} {h : Hp} (H : IntO OffF v l h S) (k : Nat) : RdF S h (k + 2) v ((Sl.mk l).av cI) := fun g hg => (IntO.locl _ _ _ S H (fun _ h => h) hg).frz k
theorem TypO.rdL {x : LType} {row : List AV} {h : Hp} (H : TypO OffF x row h S) (k : Nat) : RdL S h (k + 2) row (q1b x).cells := by
 obtain ⟨v, rfl, h2⟩ := H
 exact .cons q0N (.cons q0N (.cons q0N (.cons (h2.rdF k) .nil)))
theorem InsO.rdL {x : LIns} {row : List AV} {h : Hp} (H : InsO OffF x row h S) (k : Nat) : RdL S h (k + 2) row (q3g x).cells := by
 obtain ⟨va, vf, Sa, Sf, rfl, h2, h3, h4, h5⟩ := H
 exact .cons q0N (.cons q0N (.cons q0N (.cons q0N (.cons q0N (.cons ((h2.rdF k).mono (fun r hr => (h4 r hr).1) .refl) (.cons ((h3.rdF k).mono h5 .refl) .nil))))))
theorem SlO.rdF {ρ : X → List AV → Asr} {es k : Nat} {eT : TypeId} {v : AV} {l : List X} {h : Hp} {enc : X → List AV} {f : X → X} (hρ : ∀ a row h S, ρ a row h S → RdL S h k row (enc (f a))) (H : SlO OffF ρ es eT v l h S) : RdF S h (k + 1) v ((Sl.mk (l.map f)).av enc) := by
 have e : (Sl.mk (l.map f)).av enc = (Sl.mk l).av (fun a => enc (f a)) := by
  unfold Sl.av
  dsimp only
  rw [List.map_map]; rfl
 rw [e]
 rcases H with ⟨rfl, H⟩ | ⟨x, _, hn, H⟩
 ·rw [H.off]
  exact fun g hg => rfl
 ·exact ArrS.rd (enc := fun a => enc (f a)) hρ H
theorem BlkO.rdL {b : LBlock} {row : List AV} {h : Hp} (H : BlkO OffF b row h S) (k : Nat) : RdL S h (k + 3) row (q1w b).cells := by
 obtain ⟨u, rfl, h2⟩ := H
 exact .cons (h2.rdF (enc := LIns.cells) (f := q3g) fun _ _ _ _ h => InsO.rdL h k) (.cons q0N (.cons q0N (.cons q0N (.cons q0N .nil))))
theorem FunO.rdL {b : LFunc} {row : List AV} {h : Hp} (H : FunO OffF b row h S) (k : Nat) : RdL S h (k + 4) row (q0O b).cells := by
 obtain ⟨u, rfl, h2⟩ := H
 exact .cons q0N (.cons (h2.rdF (enc := LBlock.cells) (f := q1w) fun _ _ _ _ h => BlkO.rdL h k) .nil)
theorem prog_frz {tl : List LType} {fs : List LFunc} {tv fv : AV} {h : Hp} {ST SF : Nat → Prop} (h1 : SlO OffF (TypO OffF) 4 q1W tv tl h ST) (h2 : SlO OffF (FunO OffF) 2 q0R fv fs h SF) (k : Nat) : frzV (k + 6) h (.agg [tv, fv]) = some (.agg (z0n tl fs).cells) := by
 have e1 := (h1.rdF (enc := LType.cells) (f := q1b) (k := k + 4) fun _ _ _ _ h => TypO.rdL h (k + 2)) h fun _ _ => rfl
 have e2 := (h2.rdF (enc := LFunc.cells) (f := q0O) fun _ _ _ _ h => FunO.rdL h k) h fun _ _ => rfl
 unfold frzV
 simp only [mapO, e1, e2]
 rfl
end Go.Ax
set_option maxRecDepth 20000
noncomputable section
namespace Go.Ax
open Go.Proofs
variable {X Y : Type}
def z1c (p : LProg) : LProg := z0n p.types.list p.funcs.list
theorem q6A (p : LProg) : (z1c p).types.list = p.types.list.map q1b := rfl
theorem z0s (p : LProg) : (z1c p).funcs.list = p.funcs.list.map q0O := rfl
theorem q6D (b : LBlock) : (q1w b).ins.list = b.ins.list.map q3g := rfl
theorem q1u (f : LFunc) : (q0O f).blocks.list = f.blocks.list.map q1w := rfl
theorem asRead_idem (x : LIns) : q3g (q3g x) = q3g x := rfl
theorem asReadT_idem (x : LType) : q1b (q1b x) = q1b x := rfl
theorem map_idem {f : X → X} (h : ∀ x, f (f x) = f x) (l : List X) : (l.map f).map f = l.map f := by
 rw [List.map_map]; exact List.map_congr_left fun x _ => h x
theorem asReadB_idem (b : LBlock) : q1w (q1w b) = q1w b := by
 unfold q1w
 dsimp only [Sl.list]
 rw [map_idem asRead_idem]
theorem asReadF_idem (b : LFunc) : q0O (q0O b) = q0O b := by
 unfold q0O
 dsimp only [Sl.list]
 rw [map_idem asReadB_idem]
theorem q8P {N : X → X} {s : X → X → Bool} (hs : ∀ x y, N x = N y → s x y = true) : ∀ {l k : List X}, l.map N = k.map N → q4F s l k = true
  | [], [], _ => rfl
  | [], _ :: _, h => by simp at h
  | _ :: _, [], h => by simp at h
  | x :: l, y :: k, h => by
    simp only [List.map_cons, List.cons.injEq] at h
    simp only [q4F, hs x y h.1, q8P hs h.2, Bool.and_self]
theorem mk_inj {l k : List X} (h : Sl.mk l = Sl.mk k) : l = k := by cases h; rfl
theorem sameType_of (x y : LType) (h : q1b x = q1b y) : q3y x y = true := by
 obtain ⟨a, b, c, d⟩ := x
 obtain ⟨a', b', c', d'⟩ := y
 simp only [q1b, LType.mk.injEq] at h
 obtain ⟨rfl, rfl, rfl, h⟩ := h
 simp [q3y, z0h, mk_inj h]
theorem sameIn_of (x y : LIns) (h : q3g x = q3g y) : q6O x y = true := by
 obtain ⟨a, b, c, d, e, f, g⟩ := x
 obtain ⟨a', b', c', d', e', f', g'⟩ := y
 simp only [q3g, LIns.mk.injEq] at h
 obtain ⟨rfl, rfl, rfl, rfl, rfl, h1, h2⟩ := h
 simp [q6O, z0h, mk_inj h1, mk_inj h2]
theorem sameEnd_self (e : LEnd) : q6r e e = true := by simp [q6r]
theorem sameBlock_of (x y : LBlock) (h : q1w x = q1w y) : q2L x y = true := by
 obtain ⟨a, b⟩ := x
 obtain ⟨a', b'⟩ := y
 simp only [q1w, LBlock.mk.injEq] at h
 obtain ⟨h1, rfl⟩ := h
 simp only [q2L, sameEnd_self, q8P sameIn_of (mk_inj h1), Bool.and_self]
theorem sameFn_of (x y : LFunc) (h : q0O x = q0O y) : sameFn x y = true := by
 obtain ⟨a, b⟩ := x
 obtain ⟨a', b'⟩ := y
 simp only [q0O, LFunc.mk.injEq] at h
 obtain ⟨rfl, h1⟩ := h
 simp only [sameFn, q8P sameBlock_of (mk_inj h1), Bool.and_true, decide_true]
theorem sameP_of {p q : LProg} (h1 : p.types.list.map q1b = q.types.list.map q1b) (h2 : p.funcs.list.map q0O = q.funcs.list.map q0O) : z0g p q = true := by
 simp only [z0g, q8P sameType_of h1, q8P sameFn_of h2, Bool.and_self]
variable {t : List LType}
theorem kindAt_norm (k : Int) : kindAt (t.map q1b) k = kindAt t k := by
 unfold kindAt
 rw [List.getElem?_map]
 cases t[k.toNat]? <;> rfl
theorem plain3_norm : q5y (t.map q1b) = q5y t := by
 funext k
 unfold q5y
 rw [kindAt_norm, List.length_map]
theorem mayFn3_norm (x : LType) : q8K (t.map q1b) (q1b x) = q8K t x := by
 unfold q8K
 rw [plain3_norm]; rfl
theorem mayType3_norm (k : Nat) : q1z (t.map q1b) k = q1z t k := by
  unfold q1z
  rw [List.getElem?_map]
  cases h : t[k]? with
  | none => rfl
  | some x =>
    simp only [Option.map_some, mayFn3_norm, List.length_map]
    rfl
theorem ofN_norm : ∀ d k, ofN (t.map q1b) d k = ofN t d k
  | 0, k => rfl
  | d + 1, k => by
    unfold ofN
    rw [List.getElem?_map]
    cases h : t[k]? with
    | none => rfl
    | some x =>
      have e : (fun p : Int => ofN (t.map q1b) d p.toNat) = fun p : Int => ofN t d p.toNat := funext fun p => ofN_norm d p.toNat
      simp only [Option.map_some, ofN_norm d]
      rfl
theorem check3_norm : q5U (t.map q1b) = q5U t := by
 have e : q3T (t.map q1b) = q3T t := by
  funext k
  unfold q3T ofS
  rw [mayType3_norm, ofN_norm]
 unfold q5U
 rw [e, List.length_map]
theorem q7W (p : LProg) (f : LFunc) : q0i (z1c p) (q0O f) = q0i p f := by
 unfold q0i
 rw [q6A, List.getElem?_map]
 show (match Option.map q1b p.types.list[f.sig.toNat]? with | some x => (x.parts.list.length : Int) | none => 0) = _
 cases p.types.list[f.sig.toNat]? <;> rfl
theorem sigKind_norm (p : LProg) (f : LFunc) : q7J (z1c p) (q0O f) = q7J p f := by
 unfold q7J
 rw [q6A, List.getElem?_map]
 show (match Option.map q1b p.types.list[f.sig.toNat]? with | some x => x.kind | none => 0) = _
 cases p.types.list[f.sig.toNat]? <;> rfl
theorem q7v : ∀ l : List LBlock, q0q (l.map q1w) = q0q l
  | [] => rfl
  | b :: l => by
    simp only [List.map_cons, q0q, q7v l, q6D, List.length_map]
theorem regs6_norm (p : LProg) (f : LFunc) : q0w (z1c p) (q0O f) = q0w p f := by
 unfold q0w
 rw [q7W, q1u, q7v]
theorem mayBlock6_norm (p : LProg) (f : LFunc) (b : LBlock) : q2h (z1c p) (q0O f) (q1w b) = q2h p f b := by
 unfold q2h
 rw [regs6_norm, q1u, q6D, q6A, z0s, List.length_map, List.length_map, List.length_map, List.all_map]
 rfl
theorem mayFunc6_norm (p : LProg) (f : LFunc) : q0I (z1c p) (q0O f) = q0I p f := by
 unfold q0I q2G
 rw [sigKind_norm, q1u, q7v, q6A, List.length_map, List.length_map, List.all_map]
 have e : (q2h (z1c p) (q0O f)) ∘ q1w = q2h p f := funext fun b => mayBlock6_norm p f b
 rw [e]; rfl
theorem check6_norm (p : LProg) : q3U (z1c p) = q3U p := by
 unfold q3U
 have e : (q0I (z1c p)) ∘ q0O = q0I p := funext fun f => mayFunc6_norm p f
 rw [q6A, z0s, check3_norm, List.all_map, e, List.length_map]
theorem asked6_norm (p : LProg) (f : Int) : q0K (z1c p) f = q0K p f := by
 unfold q0K
 rw [check6_norm, z0s, List.length_map]
theorem twinB_norm (b : LBlock) : q1w (q1H b) = q1w b := by
 unfold q1w q1H
 dsimp only
 rw [Sl.of_list, List.map_map]; rfl
theorem q9C (f : LFunc) : q0O (q4y f) = q0O f := by
 unfold q0O q4y
 dsimp only
 rw [Sl.of_list, List.map_map]
 congr 2
 exact List.map_congr_left fun b _ => twinB_norm b
theorem q9B (p : LProg) : z1c (q0X p) = z1c p := by
 unfold z1c z0n q0X
 dsimp only
 rw [Sl.of_list, Sl.of_list, List.map_map, List.map_map]
 congr 2
 exact List.map_congr_left fun b _ => q9C b
theorem asked6_twin (p : LProg) (f : Int) : q0K (q0X p) f = q0K p f := by rw [← asked6_norm, q9B, asked6_norm]
theorem sigParts_twin (p : LProg) (f : LFunc) : q0i (q0X p) (q4y f) = q0i p f := by rw [← q7W, q9B, q9C, q7W]
theorem regs6_twin (p : LProg) (f : LFunc) : q0w (q0X p) (q4y f) = q0w p f := by rw [← regs6_norm, q9B, q9C, regs6_norm]
theorem q4g (p : LProg) : (q0X p).funcs.list = p.funcs.list.map q4y := Sl.of_list _
theorem q7S (p : LProg) : (q0X p).types.list = p.types.list.map q5j := Sl.of_list _
theorem q5D (f : LFunc) : (q4y f).blocks.list = f.blocks.list.map q1H := Sl.of_list _
theorem q7q (b : LBlock) : (q1H b).ins.list = b.ins.list.map q8t := Sl.of_list _
end Go.Ax
set_option maxRecDepth 20000
noncomputable section
namespace Go.Ax
open Go.Proofs
variable {X Y : Type}
theorem bool_ext {a b : Bool} (h : a = true ↔ b = true) : a = b := by
 cases a <;> cases b <;> simp at h ⊢
theorem any_mem {q : X → Bool} {a b : List X} (h : ∀ x, x ∈ a ↔ x ∈ b) : a.any q = b.any q := bool_ext (by simp only [List.any_eq_true, h])
theorem cpt_mem (l : List Int) (n : Int) : n ∈ cpt l ↔ n ∈ l := (z0e l).2 n
theorem cpt_in (l : List Int) (n : Int) : ((cpt l).any fun y => decide (n = y)) = in27 l n := bool_ext (by
 unfold in27
 simp only [List.any_eq_true, decide_eq_true_eq]
 constructor
 ·rintro ⟨x, h, rfl⟩; exact ⟨_, (cpt_mem l _).1 h, rfl⟩
 ·rintro ⟨x, h, rfl⟩; exact ⟨_, (cpt_mem l _).2 h, rfl⟩)
theorem z1y {f : LBlock → LBlock} (hf : ∀ b, (f b).ins.list.length = b.ins.list.length) : ∀ l : List LBlock, q0q (l.map f) = q0q l
 | [] => rfl
 | b :: l => by simp only [List.map_cons, q0q, z1y hf l, hf b]
theorem twinB_len (b : LBlock) : (q1H b).ins.list.length = b.ins.list.length := by rw [q7q, List.length_map]
theorem r0_eq (p : LProg) (x : LFunc) (i : Nat) (j : Nat) : q0i p x + q0q ((x.blocks.list.map q1H).take i) + (j : Int) = q4e p x i j := by
 unfold q4e
 rw [← List.map_take, z1y twinB_len]; rfl
theorem read_law (p : LProg) (x : LFunc) (g : List Int) : ((q9Y (cpt g) (q0i p x) (x.blocks.list.map q1H)).any fun r => (cpt g).any fun y => decide (r = y)) = q7n p x g := by
 have e0 : (fun r => (cpt g).any fun y => decide (r = y)) = in27 g := funext fun r => cpt_in g r
 rw [e0]
 unfold q9Y q7n
 rw [List.any_append, List.any_flatMap, List.any_flatMap, List.zipIdx_map, List.any_map, List.any_map]
 have e1 : ∀ b : LBlock × Nat, ((rdsB (cpt g) (q0i p x) (x.blocks.list.map q1H) (q1H b.1, b.2)).any (in27 g)) = b.1.ins.list.zipIdx.any (rdI1 p x g b.2) := fun b => by
  unfold rdsB
  dsimp only
  rw [List.any_flatMap, q7q, List.zipIdx_map, List.any_map]
  congr 1
  funext y
  show (rdsI (cpt g) _ (q8t y.1, y.2)).any (in27 g) = rdI1 p x g b.2 y
  unfold rdsI rdI1
  dsimp only
  rw [r0_eq, cpt_in]
  have hu : q2f (q8t y.1) = q2f y.1 := rfl
  rw [hu]
  cases in27 g (q4e p x b.2 y.2) with
  | true => simp
  | false => simp
 have e2 : (fun b : LBlock × Nat => ((rdsB (cpt g) (q0i p x) (x.blocks.list.map q1H) (q1H b.1, b.2)).any (in27 g))) = fun b => b.1.ins.list.zipIdx.any (rdI1 p x g b.2) := funext e1
 have e3 : x.blocks.list.zipIdx.any (rdB1 p x g) = (x.blocks.list.zipIdx.any (fun b => b.1.ins.list.zipIdx.any (rdI1 p x g b.2)) || x.blocks.list.any fun b => (q2g b.ed).any (in27 g)) := by
  have e4 : (x.blocks.list.any fun b => (q2g b.ed).any (in27 g)) = x.blocks.list.zipIdx.any fun b => (q2g b.1.ed).any (in27 g) := by
   have := List.any_map (l := x.blocks.list.zipIdx) (f := Prod.fst) (p := fun b : LBlock => (q2g b.ed).any (in27 g))
   rw [List.zipIdx_map_fst] at this
   exact this
  rw [e4]
  refine bool_ext ?_
  simp only [List.any_eq_true, Bool.or_eq_true, rdB1]
  constructor
  ·rintro ⟨b, hb, h | h⟩
   ·exact .inl ⟨b, hb, h⟩
   ·exact .inr ⟨b, hb, h⟩
  ·rintro (⟨b, hb, h⟩ | ⟨b, hb, h⟩)
   ·exact ⟨b, hb, .inl h⟩
   ·exact ⟨b, hb, .inr h⟩
 rw [e3]
 congr 1
 show x.blocks.list.zipIdx.any (fun b => (rdsB (cpt g) (q0i p x) (x.blocks.list.map q1H) (q1H b.1, b.2)).any (in27 g)) = _
 rw [e2]
theorem ahead_cnt {g : List Int} (hg : ∀ n ∈ g, 0 ≤ n) {r : Int} (hr : 0 ≤ r) : ahead (cpt g) r = z1d g r.toNat := by
 unfold ahead z1d
 have h1 : ((cpt g).filter fun n => decide (n < r)).Perm (((List.range r.toNat).filter fun k : Nat => in27 g (k : Int)).map fun k : Nat => (k : Int)) := by
  refine (List.perm_ext_iff_of_nodup ?_ ?_).2 fun a => ?_
  ·exact List.Nodup.sublist List.filter_sublist ((z0e g).1.imp fun h => by omega)
  ·refine List.pairwise_map.2 (List.Pairwise.imp (fun h => by omega) (List.Nodup.sublist List.filter_sublist List.nodup_range))
  ·simp only [List.mem_filter, List.mem_map, List.mem_range, decide_eq_true_eq, cpt_mem, in27, List.any_eq_true]
   constructor
   ·rintro ⟨h1, h2⟩
    have := hg a h1
    refine ⟨a.toNat, ⟨by omega, a, h1, by omega⟩, by omega⟩
   ·rintro ⟨k, ⟨h1, y, h2, h3⟩, rfl⟩
    subst h3
    exact ⟨h2, by omega⟩
 have h2 := h1.length_eq
 rw [List.length_map] at h2
 rw [h2]
theorem dropT_tn {g : List Int} (hg : ∀ n ∈ g, 0 ≤ n) {n : Nat} {r : Int} (h0 : 0 ≤ r) (h1 : r < n) : dropT (cpt g) r = tn (q4I g n) r := by
 unfold dropT tn q4I
 rw [ahead_cnt hg h0, List.getElem?_map, List.getElem?_range (by omega)]
 show r - _ = ((r.toNat : Int) - _)
 omega
theorem turn_ins {T : Int → Int} {t : List Int} {n : Nat} (hT : ∀ r : Int, 0 ≤ r → r < n → T r = tn t r) {b : LBlock} (hb : RegsIn n b) {y : LIns} (hy : y ∈ b.ins.list) : q3g (q4c T (q8t y)) = q3g (q7H t y) := by
 have ha : (if q2Y y.op = true then T y.a else y.a) = if q2Y y.op = true then tn t y.a else y.a := by
  split
  ·rename_i h; obtain ⟨h1, h2⟩ := hb.ra y hy h; exact hT _ h1 h2
  ·rfl
 have hb2 : (if two6 y.op = true then T y.b else y.b) = if two6 y.op = true then tn t y.b else y.b := by
  split
  ·rename_i h; obtain ⟨h1, h2⟩ := hb.rb y hy h; exact hT _ h1 h2
  ·rfl
 have hg : y.args.list.map T = y.args.list.map (tn t) := List.map_congr_left fun r hr => by obtain ⟨h1, h2⟩ := hb.rg y hy r hr; exact hT _ h1 h2
 unfold q4c q7H q3g q8t
 simp only [LIns.mk.injEq]
 refine ⟨trivial, trivial, ha, hb2, trivial, ?_, ?_⟩
 ·show Sl.mk (y.args.list.map T) = Sl.mk (Sl.of (y.args.list.map (tn t))).list
  rw [Sl.of_list, hg]
 ·trivial
theorem turn_end {T : Int → Int} {t : List Int} {n : Nat} (hT : ∀ r : Int, 0 ≤ r → r < n → T r = tn t r) {b : LBlock} (hb : RegsIn n b) : q8G T b.ed = turnE t b.ed := by
 unfold q8G turnE
 by_cases h : b.ed.kind = 2 ∨ b.ed.kind = 3
 ·obtain ⟨h1, h2⟩ := hb.re h
  rw [if_pos h, if_pos h, hT _ h1 h2]
 ·rw [if_neg h, if_neg h]
theorem left_law {T : Int → Int} {t : List Int} {n : Nat} (hT : ∀ r : Int, 0 ≤ r → r < n → T r = tn t r) (p : LProg) (x : LFunc) (g : List Int) (hx : ∀ b ∈ x.blocks.list, RegsIn n b) :
    (((z0i (cpt g) (q0i p x) (x.blocks.list.map q1H)).map (q7c T)).map q1w) = ((x.blocks.list.map (q4E t)).zipIdx.map (q7p p x g)).map q1w := by
  refine List.ext_getElem? fun i => ?_
  unfold z0i
  simp only [List.getElem?_map, List.getElem?_mapIdx, List.getElem?_zipIdx]
  cases hb : x.blocks.list[i]? with
  | none => rfl
  | some b =>
    have hbm := List.mem_of_getElem? hb
    simp only [Option.map_some, Option.some.injEq, Nat.zero_add]
    unfold q1w q7c q7p
    dsimp only
    have he : q8G T (kpB (cpt g) (q0i p x + q0q ((x.blocks.list.map q1H).take i)) (q1H b)).ed = (q4E t b).ed := by
      show q8G T b.ed = turnE t b.ed
      exact turn_end hT (hx b hbm)
    rw [he]
    congr 2
    show (Sl.mk _).list.map q3g = (Sl.of _).list.map q3g
    rw [Sl.of_list]
    show (List.map (q4c T) (Sl.of (kpL (cpt g) (q0i p x + q0q ((x.blocks.list.map q1H).take i)) (q1H b).ins.list.zipIdx)).list).map q3g = _
    rw [Sl.of_list]
    unfold kpL q4E
    dsimp only
    rw [Sl.of_list, q7q, List.zipIdx_map, List.zipIdx_map, List.filter_map, List.filter_map, List.map_map, List.map_map, List.map_map, List.map_map, List.map_map]
    have ef : (kpq (cpt g) (q0i p x + q0q ((x.blocks.list.map q1H).take i)) ∘ Prod.map q8t id) = (keptI p x g i ∘ Prod.map (q7H t) id) := by
      funext y
      show kpq _ _ (q8t y.1, y.2) = keptI p x g i (q7H t y.1, y.2)
      unfold kpq keptI
      dsimp only
      rw [r0_eq, cpt_in]
    rw [ef]
    refine List.map_congr_left fun y hy => ?_
    have hym : y.1 ∈ b.ins.list := by
      have := (List.mem_filter.1 hy).1
      obtain ⟨j, hj, hje⟩ := List.getElem_of_mem this
      rw [← hje]; simp
    exact turn_ins hT (hx b hbm) hym
def q8J (q : LProg) (f : Int) (l : List Int) : List LFunc := match q.funcs.list[f.toNat]? with
 | some x => setF q f.toNat x ((z0i (cpt l) (q0i q x) x.blocks.list).map (q7c (dropT (cpt l))))
 | none => []
theorem z1r {p : LProg} {f : Nat} : (q0X p).funcs.list[f]? = (p.funcs.list[f]?).map q4y := by rw [q4g, List.getElem?_map]
theorem out_law (p : LProg) (x : LFunc) (l : List Int) : (cpt l).any (outT (q0i p x) (q0w p x)) = l.any (outOf p x) := any_mem (cpt_mem l)
theorem z1n (p : LProg) (f : Int) (l : List Int) : q7I (q0X p) f l = (q0Y p f l).2 := by
  unfold q7I q0Y
  rw [asked6_twin, z1r]
  split
  · cases hx : p.funcs.list[f.toNat]? with
    | none => rfl
    | some x =>
      simp only [Option.map_some]
      rw [sigParts_twin, regs6_twin, q5D, read_law, out_law]
      split
      · rfl
      · split <;> rfl
  · rfl
theorem drop_no (p : LProg) (f : Int) (l : List Int) (h : q7I (q0X p) f l ≠ 0) : (q0Y p f l).1 = noP := by
  rw [z1n] at h
  unfold q0Y at h ⊢
  split
  · rename_i ha
    rw [if_pos ha] at h
    cases hx : p.funcs.list[f.toNat]? with
    | none => rfl
    | some x =>
      rw [hx] at h
      dsimp only at h ⊢
      split
      · rfl
      · rename_i h1
        rw [if_neg h1] at h
        split
        · rfl
        · rename_i h2
          rw [if_neg h2] at h
          exact absurd rfl h
  · rfl
theorem asReadF_mk {n : Int} {a b : Sl LBlock} (h : a.list.map q1w = b.list.map q1w) : q0O { sig := n, blocks := a } = q0O { sig := n, blocks := b } := by
 unfold q0O
 dsimp only
 rw [h]
theorem sigParts_nn (p : LProg) (x : LFunc) : 0 ≤ q0i p x := by unfold q0i; split <;> omega
theorem drop_res (p : LProg) (f : Int) (l : List Int) (h : q7I (q0X p) f l = 0) (ha : q0K p f = 0) : (q0X p).types.list.map q1b = (q0Y p f l).1.types.list.map q1b ∧ (q8J (q0X p) f l).map q0O = (q0Y p f l).1.funcs.list.map q0O := by
 obtain ⟨c1, c2, c3⟩ := q4P ha
 obtain ⟨n, rfl⟩ := Int.eq_ofNat_of_zero_le c2
 obtain ⟨x, hx⟩ := q0g (show n < p.funcs.list.length by omega)
 have hmf := (q2d c1).2.1 x (List.mem_of_getElem? hx)
 rw [z1n] at h
 have hx' : p.funcs.list[(n : Int).toNat]? = some x := hx
 have hd : q0Y p n l = if l.any (outOf p x) = true then (noP, 2) else if q7n p x l = true then (noP, 2) else (q7P p n x l, 0) := by
  unfold q0Y; rw [if_pos ha, hx']; rfl
 rw [hd] at h ⊢
 by_cases h1 : l.any (outOf p x) = true
 ·rw [if_pos h1] at h; cases h
 rw [if_neg h1] at h ⊢
 by_cases h2 : q7n p x l = true
 ·rw [if_pos h2] at h; cases h
 rw [if_neg h2] at h ⊢
 have hg : ∀ n ∈ l, 0 ≤ n := fun n hn => by
  have := sigParts_nn p x
  rw [Bool.not_eq_true, List.any_eq_false] at h1
  have h3 := h1 n hn
  unfold outOf at h3
  simp at h3
  omega
 refine ⟨?_, ?_⟩
 ·show _ = (Sl.of (p.types.list.map q5j)).list.map q1b
  rw [Sl.of_list, q7S]
 ·show _ = (Sl.of ((p.funcs.list.map q4y).set n { sig := x.sig, blocks := .of (q6e p x l) })).list.map q0O
  unfold q8J
  rw [z1r, hx']
  simp only [Option.map_some]
  unfold setF
  rw [Sl.of_list, q4g, List.map_set, List.map_set, sigParts_twin, q5D]
  show ((p.funcs.list.map q4y).map q0O).set n _ = _
  congr 1
  refine asReadF_mk ?_
  rw [Sl.of_list]
  exact left_law (fun r h0 h1 => dropT_tn hg h0 h1) p x l (q8S hmf)
def q9K (q : LProg) (f a b : Int) : List LFunc := match q.funcs.list[f.toNat]? with
 | some x => setF q f.toNat x (x.blocks.list.map (q7c (swapT a b)))
 | none => []
theorem z1i (p : LProg) (f a b : Int) : q8H (q0X p) f a b = (q1m p f a b).2 := by
  unfold q8H q1m
  rw [asked6_twin, z1r]
  split
  · cases hx : p.funcs.list[f.toNat]? with
    | none => rfl
    | some x =>
      simp only [Option.map_some]
      rw [regs6_twin]
      split <;> rfl
  · rfl
theorem swap_no (p : LProg) (f a b : Int) (h : q8H (q0X p) f a b ≠ 0) : (q1m p f a b).1 = noP := by
  rw [z1i] at h
  unfold q1m at h ⊢
  split
  · rename_i ha
    rw [if_pos ha] at h
    cases hx : p.funcs.list[f.toNat]? with
    | none => rfl
    | some x =>
      rw [hx] at h
      dsimp only at h ⊢
      split
      · rfl
      · rename_i h1
        rw [if_neg h1] at h
        exact absurd rfl h
  · rfl
theorem turnK_law {T : Int → Int} {t : List Int} {n : Nat} (hT : ∀ r : Int, 0 ≤ r → r < n → T r = tn t r) {b : LBlock} (hb : RegsIn n b) : q1w (q7c T (q1H b)) = q1w (q4E t b) := by
 unfold q1w
 have he : (q7c T (q1H b)).ed = (q4E t b).ed := by
  show q8G T b.ed = turnE t b.ed
  exact turn_end hT hb
 rw [he]
 congr 2
 show ((q1H b).ins.list.map (q4c T)).map q3g = (Sl.of (b.ins.list.map (q7H t))).list.map q3g
 rw [Sl.of_list, q7q, List.map_map, List.map_map, List.map_map]
 exact List.map_congr_left fun y hy => turn_ins hT hb hy
theorem swapT_tn {a b : Int} {n : Nat} (ha : 0 ≤ a) (han : a < n) {r : Int} (h0 : 0 ≤ r) (h1 : r < n) : swapT a b r = tn (q1x n a.toNat b) r := by
 unfold swapT tn q1x
 rw [List.getElem?_set, List.length_map, List.length_range, List.getElem?_map, List.getElem?_range (by omega)]
 by_cases h : r = a
 ·subst h
  rw [if_pos rfl, if_pos rfl, if_pos (by omega)]; rfl
 ·rw [if_neg h, if_neg (by omega)]
  show r = ((r.toNat : Nat) : Int)
  omega
theorem swap_res (p : LProg) (f a b : Int) (h : q8H (q0X p) f a b = 0) (ha : q0K p f = 0) : (q0X p).types.list.map q1b = (q1m p f a b).1.types.list.map q1b ∧ (q9K (q0X p) f a b).map q0O = (q1m p f a b).1.funcs.list.map q0O := by
 obtain ⟨c1, c2, c3⟩ := q4P ha
 obtain ⟨n, rfl⟩ := Int.eq_ofNat_of_zero_le c2
 obtain ⟨x, hx⟩ := q0g (show n < p.funcs.list.length by omega)
 have hmf := (q2d c1).2.1 x (List.mem_of_getElem? hx)
 rw [z1i] at h
 have hx' : p.funcs.list[(n : Int).toNat]? = some x := hx
 have hd : q1m p n a b = if a < 0 ∨ b < 0 ∨ q0w p x ≤ a ∨ q0w p x ≤ b then (noP, 2) else (z1h p n x a.toNat b, 0) := by
  unfold q1m; rw [if_pos ha, hx']; rfl
 rw [hd] at h ⊢
 by_cases h1 : a < 0 ∨ b < 0 ∨ q0w p x ≤ a ∨ q0w p x ≤ b
 ·rw [if_pos h1] at h; cases h
 rw [if_neg h1] at h ⊢
 refine ⟨?_, ?_⟩
 ·show _ = (Sl.of (p.types.list.map q5j)).list.map q1b
  rw [Sl.of_list, q7S]
 ·show _ = (Sl.of ((p.funcs.list.map q4y).set n { sig := x.sig, blocks := .of (x.blocks.list.map (q4E (q1x (q0w p x).toNat a.toNat b))) })).list.map q0O
  unfold q9K
  rw [z1r, hx']
  simp only [Option.map_some]
  unfold setF
  rw [Sl.of_list, q4g, List.map_set, List.map_set, q5D]
  show ((p.funcs.list.map q4y).map q0O).set n _ = _
  congr 1
  refine asReadF_mk ?_
  rw [Sl.of_list]
  show ((x.blocks.list.map q1H).map (q7c (swapT a b))).map q1w = _
  rw [List.map_map, List.map_map, List.map_map]
  refine List.map_congr_left fun c hc => ?_
  exact turnK_law (fun r h0 h1 => swapT_tn (by omega) (by omega) h0 h1) (q8S hmf c hc)
end Go.Ax
set_option maxRecDepth 20000
noncomputable section
namespace Go.Ax
open Go.Proofs
attribute [local irreducible] TW TO CallsT q0y
variable {F : Nat → Option Obj} {gl : Nat → AV} {K : Knob} {S S' : Nat → Prop} {X : Type}
theorem SmallF.norm {f : LFunc} (h : SmallF f) : SmallF (q0O f) := by
 refine ⟨by rw [q1u, List.length_map]; exact h.nb, by rw [q1u, q7v]; exact h.many, fun b hb x hx => ?_, fun b hb x hx => ?_⟩
 all_goals
  rw [q1u] at hb
  obtain ⟨c, hc, rfl⟩ := List.mem_map.1 hb
  rw [q6D] at hx
  obtain ⟨y, hy, rfl⟩ := List.mem_map.1 hx
 ·exact h.args c hc y hy
 ·exact h.frm c hc y hy
theorem SmallF.of_norm {f : LFunc} (h : SmallF (q0O f)) : SmallF f := by
 refine ⟨by have := h.nb; rwa [q1u, List.length_map] at this, by have := h.many; rwa [q1u, q7v] at this, fun b hb x hx => ?_, fun b hb x hx => ?_⟩
 ·exact h.args (q1w b) (by rw [q1u]; exact List.mem_map_of_mem hb) (q3g x) (by rw [q6D]; exact List.mem_map_of_mem hx)
 ·exact h.frm (q1w b) (by rw [q1u]; exact List.mem_map_of_mem hb) (q3g x) (by rw [q6D]; exact List.mem_map_of_mem hx)
theorem SmallF.twin {f : LFunc} (h : SmallF f) : SmallF (q4y f) := SmallF.of_norm (by rw [q9C]; exact h.norm)
theorem SmallP.twin {p : LProg} (h : SmallP p) : SmallP (q0X p) := by
 refine ⟨by rw [q7S, List.length_map]; exact h.nt, fun x hx => ?_, by rw [q4g, List.length_map]; exact h.nf, fun f hf => ?_⟩
 ·rw [q7S] at hx
  obtain ⟨y, hy, rfl⟩ := List.mem_map.1 hx
  exact h.parts y hy
 ·rw [q4g] at hf
  obtain ⟨y, hy, rfl⟩ := List.mem_map.1 hf
  exact (h.funcs y hy).twin
theorem OpsP.twin {p : LProg} (h : OpsP p) : OpsP (q0X p) := ⟨fun f hf => ⟨fun b hb x hx => by
 rw [q4g] at hf
 obtain ⟨g, hg, rfl⟩ := List.mem_map.1 hf
 rw [q5D] at hb
 obtain ⟨c, hc, rfl⟩ := List.mem_map.1 hb
 rw [q7q] at hx
 obtain ⟨y, hy, rfl⟩ := List.mem_map.1 hx
 exact (h.op g hg).op c hc y hy⟩⟩
theorem args_twin {p : LProg} {n : Nat} (h : ∀ x ∈ p.funcs.list, ∀ b ∈ x.blocks.list, ∀ y ∈ b.ins.list, y.args.list.length ≤ n) : ∀ x ∈ (q0X p).funcs.list, ∀ b ∈ x.blocks.list, ∀ y ∈ b.ins.list, y.args.list.length ≤ n := fun f hf b hb x hx => by
 rw [q4g] at hf
 obtain ⟨g, hg, rfl⟩ := List.mem_map.1 hf
 rw [q5D] at hb
 obtain ⟨c, hc, rfl⟩ := List.mem_map.1 hb
 rw [q7q] at hx
 obtain ⟨y, hy, rfl⟩ := List.mem_map.1 hx
 exact h g hg c hc y hy
theorem SmallF.left {x : LFunc} (h : SmallF x) {L : List LBlock} (hl : L.length = x.blocks.list.length) (hm : q0q L ≤ q0q x.blocks.list) (hb : ∀ b ∈ L, ∀ y ∈ b.ins.list, ∃ c ∈ x.blocks.list, ∃ z ∈ c.ins.list, y.args.list.length = z.args.list.length ∧ y.frm.list.length = z.frm.list.length) : SmallF { x with blocks := .mk L } := by
 refine ⟨by show L.length < _; rw [hl]; exact h.nb, by show q0q L < _; have := h.many; omega, fun b hb' y hy => ?_, fun b hb' y hy => ?_⟩
 ·obtain ⟨c, hc, z, hz, e1, e2⟩ := hb b hb' y hy
  rw [e1]; exact h.args c hc z hz
 ·obtain ⟨c, hc, z, hz, e1, e2⟩ := hb b hb' y hy
  rw [e2]; exact h.frm c hc z hz
theorem turnK_len (T : Int → Int) (b : LBlock) : (q7c T b).ins.list.length = b.ins.list.length := by
 show (b.ins.list.map (q4c T)).length = _
 rw [List.length_map]
theorem small_turn {T : Int → Int} {L : List LBlock} {x : LFunc} (h : ∀ b ∈ L, ∀ y ∈ b.ins.list, ∃ c ∈ x.blocks.list, y ∈ c.ins.list) : ∀ b ∈ L.map (q7c T), ∀ y ∈ b.ins.list, ∃ c ∈ x.blocks.list, ∃ z ∈ c.ins.list, y.args.list.length = z.args.list.length ∧ y.frm.list.length = z.frm.list.length := fun b hb y hy => by
 obtain ⟨c, hc, rfl⟩ := List.mem_map.1 hb
 obtain ⟨z, hz, rfl⟩ := List.mem_map.1 (show y ∈ c.ins.list.map (q4c T) from hy)
 obtain ⟨d, hd, hzd⟩ := h c hc z hz
 exact ⟨d, hd, z, hzd, List.length_map .., rfl⟩
theorem small_swap {q : LProg} (h : SmallP q) (f a b : Int) : ∀ x ∈ q9K q f a b, SmallF x := fun x hx => by
 unfold q9K at hx
 split at hx
 ·rename_i y hy
  have hym := List.mem_of_getElem? hy
  unfold setF at hx
  rcases List.mem_or_eq_of_mem_set hx with h1 | rfl
  ·exact h.funcs x h1
  ·exact (h.funcs y hym).left (List.length_map ..) (by rw [z1y (turnK_len _)]; exact Int.le_refl _) (small_turn fun b hb z hz => ⟨b, hb, hz⟩)
 ·cases hx
theorem small_drop {q : LProg} (h : SmallP q) (f : Int) (l : List Int) : ∀ x ∈ q8J q f l, SmallF x := fun x hx => by
 unfold q8J at hx
 split at hx
 ·rename_i y hy
  have hym := List.mem_of_getElem? hy
  unfold setF at hx
  rcases List.mem_or_eq_of_mem_set hx with h1 | rfl
  ·exact h.funcs x h1
  ·refine (h.funcs y hym).left (by rw [List.length_map]; simp [z0i]) (by rw [z1y (turnK_len _)]; exact many6_mapIdx (fun i b => kpB_len _ _ b) _) (small_turn fun b hb z hz => ?_)
   obtain ⟨i, hi, rfl⟩ := List.mem_mapIdx.1 hb
   exact ⟨_, List.getElem_mem hi, kpB_mem hz⟩
 ·cases hx
theorem drop_nlen (q : LProg) (f : Int) (l : List Int) : (q8J q f l).length ≤ q.funcs.list.length := by
 unfold q8J
 split
 ·simp [setF]
 ·simp
theorem swap_nlen (q : LProg) (f a b : Int) : (q9K q f a b).length ≤ q.funcs.list.length := by
 unfold q9K
 split
 ·simp [setF]
 ·simp
theorem SmallP.read {tl : List LType} {fs : List LFunc} (h1 : tl.length < 900000) (h2 : ∀ x ∈ tl, x.parts.list.length < 900000) (h3 : fs.length < 900000) (h4 : ∀ f ∈ fs, SmallF f) : SmallP (z0n tl fs) := by
 refine ⟨?_, fun x hx => ?_, ?_, fun f hf => ?_⟩
 ·show (tl.map q1b).length < _
  rwa [List.length_map]
 ·obtain ⟨y, hy, rfl⟩ := List.mem_map.1 (show x ∈ tl.map q1b from hx)
  exact h2 y hy
 ·show (fs.map q0O).length < _
  rwa [List.length_map]
 ·obtain ⟨y, hy, rfl⟩ := List.mem_map.1 (show f ∈ fs.map q0O from hf)
  exact (h4 y hy).norm
def OutA (e : Int) (q : LProg) (v : AV) (h : Hp) (S : Nat → Prop) : Prop :=
 ∃ tv fv fs SF, v = .tup [.agg [tv, fv], .int .i64 e] ∧ (cellsOf tv = some [tv] ∧ q0P tv = true ∧ cellsOf fv = some [fv] ∧ q0P fv = true) ∧ RdF S h 20 (.agg [tv, fv]) (.agg q.cells) ∧ fs.length < 1000000 ∧ (∀ f ∈ fs, BndF f) ∧ SlO AnyF (FunO AnyF) 2 q0R fv fs h SF ∧ ∀ s, SF s → S s
theorem bndF_of {f : LFunc} (h : SmallF f) : BndF f := ⟨by have := h.nb; omega, fun b hb => ⟨by have h1 := h.many; have h2 := z1x hb; omega, fun x hx => by have := h.args b hb x hx; show x.args.list.length < _; omega⟩⟩
theorem FunO.any {f : LFunc} {row : List AV} {h : Hp} {S : Nat → Prop} (H : FunO OffF f row h S) : FunO AnyF f row h S := by
 obtain ⟨u, rfl, h2⟩ := H
 exact ⟨u, rfl, h2.any fun _ _ _ _ ⟨w, e, h3⟩ => ⟨w, e, h3.any fun _ _ _ _ h => h⟩⟩
theorem OutA.of {e : Int} {tl : List LType} {fs : List LFunc} {v : AV} {h : Hp} (H : ResV OffF e tl fs v h S) (h3 : fs.length < 900000) (h4 : ∀ f ∈ fs, SmallF f) : (e ≠ 0 → OutA e noP v h S) ∧ (e = 0 → OutA e (z0n tl fs) v h S) := by
 rcases H with ⟨he, rfl⟩ | ⟨he, tv, fv, ST, SF, rfl, a2, a3, a4, a5⟩
 ·refine ⟨fun _ => ⟨.nilsl, .nilsl, [], fun _ => False, rfl, ⟨rfl, rfl, rfl, rfl⟩, fun g _ => rfl, by simp, nofun, .none, fun _ h => h.elim⟩, fun h => absurd h he⟩
 ·refine ⟨fun h => absurd he h, fun _ => ⟨tv, fv, fs, SF, by rw [he], ⟨a2.len.2.2.2, a2.len.2.2.1, a3.len.2.2.2, a3.len.2.2.1⟩, fun g hg => ?_, by omega, fun f hf => bndF_of (h4 f hf), a3.any fun _ _ _ _ h => h.any, a5⟩⟩
  exact prog_frz (SlO.locl TypO.locl _ g _ ST a2 (fun _ h => h) fun s hs => hg s (a4 s hs).1) (SlO.locl FunO.locl _ g _ SF a3 (fun _ h => h) fun s hs => hg s (a5 s hs)) 14
theorem OutA.locl {e : Int} {q : LProg} {v : AV} : Locl (OutA e q v) := fun h g S S' ⟨tv, fv, fs, SF, h1, h2, h3, h4, h5, h6, h7⟩ hS hg =>
 ⟨tv, fv, fs, SF, h1, h2, h3.mono hS hg, h4, h5, SlO.locl FunO.locl _ _ _ _ h6 (fun _ h => h) fun s hs => hg s (h7 s hs), fun s hs => hS s (h7 s hs)⟩
def outP (e : Int) (tl : List LType) (fs : List LFunc) : LProg := if e = 0 then z0n tl fs else noP
theorem Drop_tell (hV : Env F gl K) (q : LProg) (f : Int) (l : Sl Int) (hl : l.list.length < 1000000) (hs : SmallP q) (ho : OpsP q) (ha20 : ∀ x ∈ q.funcs.list, ∀ b ∈ x.blocks.list, ∀ y ∈ b.ins.list, y.args.list.length ≤ 20) (h : Hp) (hlo : h.lo = h.nx) (hw : ∀ r, h.nx ≤ r → h.get r = none) :
  ∃ v h1 S, OutA (q7I q f l.list) (outP (q7I q f l.list) q.types.list (q8J q f l.list)) v h1 S ∧ Wid h h1 ∧ (∀ r, h1.nx ≤ r → h1.get r = none) ∧ (∀ s, S s → h.nx ≤ s ∧ s < h1.nx) ∧ HpLe h h1 ∧ Calling Tryz.prog F h h1 v q3o [.agg q.cells, .int .i64 f, l.av cI] ∧ h1.lo = h.nx ∧ h.nx < h1.nx := by
 obtain ⟨v, h1, S, a1, a2⟩ := q7Q (B := fun v => ResV AnyF (q7I q f l.list) q.types.list (q8J q f l.list) v) ((Drop_mem hV q f l hl hs ho ha20 .e).mono fun v g ⟨_, hh⟩ => by
  rcases hh with ⟨he, hv⟩ | ⟨he, x, u, hx, ha, hv, tv, fv, ST, SF, hu, b2, b3, b4, b5⟩
  ·exact ⟨fun _ => False, .inl ⟨he, hv⟩⟩
  ·have e : q8J q f l.list = setF q f.toNat x ((z0i (cpt l.list) (q0i q x) x.blocks.list).map (q7c (dropT (cpt l.list)))) := by unfold q8J; rw [hx]
   exact ⟨fun _ => True, .inr ⟨he, tv, fv, ST, SF, by rw [hv, hu], b2, by rw [e]; exact b3, fun s hs => ⟨trivial, (b4 s hs).2.2⟩, fun _ _ => trivial⟩⟩) (by simp [q1v, q2F q7d, q2F z0k, q2F (e := cI) (fun _ => rfl)]) (ResV.rig _ _ _) (ResV.ex _ _ _) (fun v => ResV.locl) h hlo hw
 refine ⟨v, h1, S, ?_, a2⟩
 obtain ⟨k1, k2⟩ := OutA.of a1 (by have := drop_nlen q f l.list; have := hs.nf; omega) (small_drop hs f l.list)
 unfold outP
 split
 ·exact k2 ‹_›
 ·exact k1 ‹_›
theorem Swap_tell (hV : Env F gl K) (q : LProg) (f a b : Int) (hs : SmallP q) (ho : OpsP q) (h : Hp) (hlo : h.lo = h.nx) (hw : ∀ r, h.nx ≤ r → h.get r = none) :
  ∃ v h1 S, OutA (q8H q f a b) (outP (q8H q f a b) q.types.list (q9K q f a b)) v h1 S ∧ Wid h h1 ∧ (∀ r, h1.nx ≤ r → h1.get r = none) ∧ (∀ s, S s → h.nx ≤ s ∧ s < h1.nx) ∧ HpLe h h1 ∧ Calling Tryz.prog F h h1 v q3n [.agg q.cells, .int .i64 f, .int .i64 a, .int .i64 b] ∧ h1.lo = h.nx ∧ h.nx < h1.nx := by
 obtain ⟨v, h1, S, a1, a2⟩ := q7Q (B := fun v => ResV AnyF (q8H q f a b) q.types.list (q9K q f a b) v) ((Swap_mem hV q f a b hs ho .e).mono fun v g ⟨_, hh⟩ => by
  rcases hh with ⟨he, hv⟩ | ⟨he, x, u, hx, ha, hv, tv, fv, ST, SF, hu, b2, b3, b4, b5⟩
  ·exact ⟨fun _ => False, .inl ⟨he, hv⟩⟩
  ·have e : q9K q f a b = setF q f.toNat x (x.blocks.list.map (q7c (swapT a b))) := by unfold q9K; rw [hx]
   exact ⟨fun _ => True, .inr ⟨he, tv, fv, ST, SF, by rw [hv, hu], b2, by rw [e]; exact b3, fun s hs => ⟨trivial, (b4 s hs).2.2⟩, fun _ _ => trivial⟩⟩) (by simp [q1v, q2F q7d, q2F z0k]) (ResV.rig _ _ _) (ResV.ex _ _ _) (fun v => ResV.locl) h hlo hw
 refine ⟨v, h1, S, ?_, a2⟩
 obtain ⟨k1, k2⟩ := OutA.of a1 (by have := swap_nlen q f a b; have := hs.nf; omega) (small_swap hs f a b)
 unfold outP
 split
 ·exact k2 ‹_›
 ·exact k1 ‹_›
end Go.Ax
set_option maxRecDepth 20000
noncomputable section
namespace Go.Ax
open Go.Proofs
variable {F : Nat → Option Obj} {gl : Nat → AV} {K : Knob} {S S' : Nat → Prop} {X : Type}
theorem small_no : SmallP noP := ⟨by simp [noP, Sl.list], fun x hx => by simp [noP, Sl.list] at hx, by simp [noP, Sl.list], fun x hx => by simp [noP, Sl.list] at hx⟩
theorem small_outP {e : Int} {q : LProg} {fs : List LFunc} (h : SmallP q) (h3 : fs.length < 900000) (h4 : ∀ f ∈ fs, SmallF f) : SmallP (outP e q.types.list fs) := by
 unfold outP
 split
 ·exact SmallP.read (by have := h.nt; omega) (fun x hx => by have := h.parts x hx; omega) h3 h4
 ·exact small_no
theorem same_no : z0g noP noP = true := by simp [z0g, noP, Sl.list, q4F]
theorem same_read {tl : List LType} {fs : List LFunc} {q : LProg} (h1 : tl.map q1b = q.types.list.map q1b) (h2 : fs.map q0O = q.funcs.list.map q0O) : z0g (z0n tl fs) q = true := by
 refine sameP_of ?_ ?_
 ·show (tl.map q1b).map q1b = _
  rw [map_idem asReadT_idem, h1]
 ·show (fs.map q0O).map q0O = _
  rw [map_idem asReadF_idem, h2]
theorem asked_drop {p : LProg} {f : Int} {l : List Int} (h : (q0Y p f l).2 = 0) : q0K p f = 0 := by
 unfold q0Y at h
 split at h
 ·assumption
 ·exact h
theorem asked_swap {p : LProg} {f a b : Int} (h : (q1m p f a b).2 = 0) : q0K p f = 0 := by
 unfold q1m at h
 split at h
 ·assumption
 ·exact h
theorem same_drop (p : LProg) (f : Int) (l : List Int) : z0g (outP (q0Y p f l).2 (q0X p).types.list (q8J (q0X p) f l)) (q0Y p f l).1 = true := by
 unfold outP
 split
 ·rename_i h
  obtain ⟨h1, h2⟩ := drop_res p f l (by rw [z1n]; exact h) (asked_drop h)
  exact same_read h1 h2
 ·rename_i h
  rw [drop_no p f l (by rw [z1n]; exact h)]
  exact same_no
theorem same_swap (p : LProg) (f a b : Int) : z0g (outP (q1m p f a b).2 (q0X p).types.list (q9K (q0X p) f a b)) (q1m p f a b).1 = true := by
 unfold outP
 split
 ·rename_i h
  obtain ⟨h1, h2⟩ := swap_res p f a b (by rw [z1i]; exact h) (asked_swap h)
  exact same_read h1 h2
 ·rename_i h
  rw [swap_no p f a b (by rw [z1i]; exact h)]
  exact same_no
theorem same_twin (p : LProg) : z0g (q0X p) p = true := by
 have h := q9B p
 refine sameP_of ?_ ?_
 ·have := congrArg (fun q : LProg => q.types.list) h
  exact this
 ·have := congrArg (fun q : LProg => q.funcs.list) h
  exact this
theorem small_outD {p : LProg} (h : SmallP (q0X p)) (f : Int) (l : List Int) (e : Int) : SmallP (outP e (q0X p).types.list (q8J (q0X p) f l)) := small_outP h (by have := drop_nlen (q0X p) f l; have := h.nf; omega) (small_drop h f l)
theorem small_outS {p : LProg} (h : SmallP (q0X p)) (f a b : Int) (e : Int) : SmallP (outP e (q0X p).types.list (q9K (q0X p) f a b)) := small_outP h (by have := swap_nlen (q0X p) f a b; have := h.nf; omega) (small_swap h f a b)
theorem OutA.frz {e : Int} {q : LProg} {tv fv : AV} {h : Hp} (H : OutA e q (.tup [.agg [tv, fv], .int .i64 e]) h S) : frzV 20 h (.agg [tv, fv]) = some (.agg q.cells) := by
 obtain ⟨tv', fv', fs, SF, hv, _, hr, _⟩ := H
 simp only [AV.tup.injEq, List.cons.injEq, AV.agg.injEq, and_true] at hv
 obtain ⟨rfl, rfl⟩ := hv
 exact hr h fun _ _ => rfl
end Go.Ax
set_option maxRecDepth 20000
noncomputable section
namespace Go.Ax
open Go.Proofs
attribute [local irreducible] TW TO CallsT q0y
variable {F : Nat → Option Obj} {gl : Nat → AV} {K : Knob} {S S' : Nat → Prop} {X : Type}
theorem progcells (q : LProg) : q.cells = [q.types.av LType.cells, q.funcs.av LFunc.cells] := rfl
theorem sliceI {a b : Int} {r : List Int} {h : Hp} : q5M (Ctx.of Tryz.prog gl K) 26 (.isl ([.int .i64 a] :: [.int .i64 b] :: r.map cI)) (some (.int .i64 2)) none none h = some (.isl (r.map cI)) := by
 show q5M (Ctx.of Tryz.prog gl K) 26 (.isl (cI a :: cI b :: r.map cI)) (some (.int .i64 2)) none none h = some (.isl (r.map cI))
 have hall : (r.map cI).all (fun c => Nat.beq c.length 1) = true := by
  rw [List.all_eq_true]
  intro c hc
  obtain ⟨n, _, rfl⟩ := List.mem_map.1 hc
  rfl
 have hl : (cI a :: cI b :: r.map cI).length = r.length + 2 := by simp
 have ht : ((r.map cI).take (Nat.sub (r.length + 2) 2)) = r.map cI := List.take_of_length_le (by simp)
 have hc : (cI a :: cI b :: r.map cI).all (fun c => Nat.beq c.length 1) = true := by
  rw [List.all_cons, List.all_cons, hall]; rfl
 have hb2 : Nat.ble 2 (r.length + 2) = true := Nat.ble_eq_true_of_le (by omega)
 have hb3 : Nat.ble (r.length + 2) (r.length + 2) = true := Nat.ble_eq_true_of_le (by omega)
 simp only [q5M, ti26, ti3, q8u, hl, hc, show q6d (AV.int .i64 2) = some 2 from rfl, hb2, hb3, Bool.and_self, cond_true]
 show some (AV.isl (((r.map cI)).take (Nat.sub (r.length + 2) 2))) = _
 rw [ht]
theorem nat0 : q6d (AV.int .i64 0) = some 0 := rfl
theorem nat1 : q6d (AV.int .i64 1) = some 1 := rfl
set_option maxHeartbeats 8000000 in
theorem TidyDrops_pure (hV : Env F gl K) (p : LProg) (f : Int) (l : Sl Int) (hb : ∀ f ∈ p.funcs.list, ∀ b ∈ f.blocks.list, b.ins.list.length < 4611686018427387904) (ho : OpsP p) :
    q0y Tryz.prog F q5i [.agg p.cells, .int .i64 f, l.av cI] (.bool true) := by
  have hP := hV.P
  have hX := hV.X
  refine CallsT.pure (O := fun u _ => u = .bool true) (k := 1) (by simp) ?_ (fun u g e => by subst e; rfl)
  refine CallsT.body hP q0e q8o rfl rfl ?_
  have e0 := Great6_pure hP p 100 (by decide) hb
  have hlen := fun h => q3F (C := Ctx.of Tryz.prog gl K) (t := q0u) (h := h) (lenA_av (e := cI) l) (fun s => by cases l <;> simp [Sl.av])
  dsimp only [q0u] at hlen
  refine TW.seq (TW.regG hP (by simp <;> rfl) ?_)
  dsimp only [goK, q0a, q0f, q0d]
  refine TW.gen (fun g => g.get 0 = some (.cells 25 p.cells) ∧ g.nx = 1) ⟨by simp, by simp⟩ fun g hg => ?_
  obtain ⟨g0, hn⟩ := hg
  dsimp only [LProg.cells] at g0
  by_cases hgr : z1f p 100 = true
  · rw [hgr] at e0
    repeat' first | refine TW.seq ?_ | refine TW.condT hP rfl ?_ | (refine TW.regG hP (by simp [g0] <;> rfl) ?_; dsimp only [goK]) | (refine TO.scall hP q2T (e0) ?_ rfl rfl rfl rfl ?_; (focus (simp; done)); refine TO.runsG hP (by simp <;> rfl) ?_; dsimp only [goK]) | simp only [q0a] | (refine TW.ret ⟨.inr rfl, _, _, rfl, rfl, ?_⟩; dsimp only [q0h])
  rw [Bool.not_eq_true] at hgr
  rw [hgr] at e0
  by_cases h60 : (60 : Int) < (l.list.length : Int)
  · repeat' first | refine TW.seq ?_ | refine TW.condT hP rfl ?_ | (refine TW.regG hP (by simp [g0] <;> rfl) ?_; dsimp only [goK]) | (refine TO.scall hP q2T (e0) ?_ rfl rfl rfl rfl ?_; (focus (simp; done)); refine TO.runsG hP (by simp [hlen, h60] <;> rfl) ?_; dsimp only [goK]) | simp only [q0a] | (refine TW.ret ⟨.inr rfl, _, _, rfl, rfl, ?_⟩; dsimp only [q0h])
  by_cases h2 : (l.list.length : Int) < 2
  · repeat' first | refine TW.seq ?_ | refine TW.condT hP rfl ?_ | (refine TW.regG hP (by simp [g0] <;> rfl) ?_; dsimp only [goK]) | (refine TO.scall hP q2T (e0) ?_ rfl rfl rfl rfl ?_; (focus (simp; done)); refine TO.runsG hP (by simp [hlen, h60, h2] <;> rfl) ?_; dsimp only [goK]) | simp only [q0a] | (refine TW.ret ⟨.inr rfl, _, _, rfl, rfl, ?_⟩; dsimp only [q0h])
  obtain ⟨hs, hnf, hnt, hpt, hfu⟩ := great6_small (by decide) hgr
  obtain ⟨a, b, r, rfl⟩ : ∃ a b r, l = .mk (a :: b :: r) := by
    cases l with
    | nil => simp [Sl.list] at h2
    | mk l =>
      match l, h2 with
      | [], h => exact absurd (by simp [Sl.list]) h
      | [_], h => exact absurd (by simp [Sl.list]) h
      | a :: b :: r, _ => exact ⟨a, b, r, rfl⟩
  have hl60 : r.length + 2 ≤ 60 := by simp [Sl.list] at h60; omega
  have hrl : r.length < 1000000 := by omega
  repeat' first | refine TW.seq ?_ | refine TW.skip ?_ | refine TW.condF hP rfl ?_ | (refine TW.regG hP (by simp [g0] <;> rfl) ?_; dsimp only [goK]) | (refine TO.scall hP q2T (e0) ?_ rfl rfl rfl rfl ?_; (focus (simp; done)); refine TO.runsG hP (by simp [hlen, h60, h2] <;> rfl) ?_; dsimp only [goK])
  refine TO.ccall hP q5e (Twin6_mem hP hX p hs g) (by simp) rfl rfl rfl rfl (fun u g1 ⟨fv, hu, hw1, hfv⟩ => ?_)
  subst hu
  obtain ⟨d1, d2⟩ := hfv.cell
  obtain ⟨mv, g2, happ, hw2, q2, hq2, hq2n, hmine⟩ := app_intS (gl := gl) (K := K) (.mk (a :: b :: r)) (by simp [Sl.list]; omega) g1
  obtain ⟨d3, d4⟩ := hmine.cell
  dsimp only [q0u, q0C] at happ
  refine TO.runsG hP (by simp [d1, happ] <;> rfl) ?_
  try dsimp only [goK, q0a]
  have n1 := hw1.nx
  have n2 := hw2.nx
  obtain ⟨S1, hS1, hr1⟩ := hfv.rd
  rw [q5C] at hr1
  refine TW.freeze (l' := [(1, .int .i64 f), (2, .isl ([.int .i64 a] :: [.int .i64 b] :: r.map cI)), (3, .ptr 0 0), (7, .iptr [(q0X p).cells] 0 0), (8, .isl ([.int .i64 a] :: [.int .i64 b] :: r.map cI))]) (fun s => s ≠ 0) (q1M rfl (q1M rfl (q1M rfl (q6U (k := 6) rfl (fun G hG => ?_) (q6U (k := 2) rfl (fun G hG => hmine.rd G fun s hs => ?_) frz_nil))))) ?_
  · have h1 : G.get g2.nx = _ := (hG g2.nx (by omega)).trans (by rw [get_put, if_pos rfl])
    have h3 := hr1 G fun s hs => by
      have := hS1 s hs
      rw [hG s (by omega), get_put, if_neg (by omega), get_new, if_neg (by omega)]
      exact hw2.get s (by omega)
    have h4 := q6R (k := 4) (h := G) (e := LType.cells) q7d (Sl.of (p.types.list.map q5j))
    unfold frzV
    dsimp only
    rw [h1]
    simp only [mapO, h3, h4]
    rfl
  · have hs : s = q2 := hs
    subst hs
    rw [hG s (by omega), get_put, if_neg (by omega), get_new, if_neg (by omega)]
  refine TW.gen (fun G => G.get 0 = some (.cells 25 p.cells) ∧ 1 ≤ G.nx) ⟨?_, ?_⟩ fun G hG => ?_
  · rw [q8p (by simp), get_put, if_neg (by omega), get_new, if_neg (by omega), hw2.get 0 (by omega), hw1.get 0 (by omega)]; exact g0
  · rw [wo_nx, nx_put, nx_new]; omega
  clear hr1 hS1 happ hmine hfv hw2 hw1 d3 d4 d1 d2 g0 hn hlen e0 n1 n2 hq2 hq2n
  obtain ⟨G0, hGn⟩ := hG
  dsimp only [LProg.cells] at G0
  have hst := hs.twin
  have hot := ho.twin
  have ha20 := args_twin (p := p) (n := 20) fun x hx b hb y hy => ((hfu x hx).2.1 b hb y hy).1
  refine TW.seq (TW.wf fun hwf => ?_)
  obtain ⟨av, k1, SA, oA, wA, wfA, rA, leA, cA, lA, nA⟩ := Drop_tell hV (q0X p) f (.mk r) hrl hst hot ha20 G.up (by rw [up_lo, q2J]) (wf_up hwf)
  have oA' := oA
  obtain ⟨tvA, fvA, fsA, SFA, rfl, ⟨p1, p2, p3, p4⟩, rdA, _, _, _, _⟩ := oA'
  have eA : q7I (q0X p) f (Sl.mk r).list = (q0Y p f r).2 := z1n p f r
  rw [eA] at oA cA
  rw [q2J] at lA nA
  have cA : Calling Tryz.prog F G.up k1 (.tup [.agg [tvA, fvA], .int .i64 (q0Y p f r).2]) q3o [.agg [(q0X p).types.av LType.cells, (q0X p).funcs.av LFunc.cells], .int .i64 f, .isl (r.map cI)] := cA
  have c1 := q5r (gl := gl) (K := K) (f := q3o) (args := [.agg [(q0X p).types.av LType.cells, (q0X p).funcs.av LFunc.cells], .int .i64 f, .isl (r.map cI)]) (h := G.up) (v := .tup [.agg [tvA, fvA], .int .i64 (q0Y p f r).2]) (h1 := k1)
  have o1 := q6t (gl := gl) (K := K) (f := q3o) (args := [.agg [(q0X p).types.av LType.cells, (q0X p).funcs.av LFunc.cells], .int .i64 f, .isl (r.map cI)]) (h := G.up) (v := .tup [.agg [tvA, fvA], .int .i64 (q0Y p f r).2]) (h1 := k1)
  have hX1 := fun f' a' => (show (Ctx.of Tryz.prog gl ((K.tellP q3o [.agg [(q0X p).types.av LType.cells, (q0X p).funcs.av LFunc.cells], .int .i64 f, .isl (r.map cI)] G.up (.tup [.agg [tvA, fvA], .int .i64 (q0Y p f r).2]) k1).tell [])).ext f' a' = none from hX f' a')
  refine TW.drawH (q4M hP leA cA) [] (fun e he => by cases he) [0, 0, 0, 4, 15, 31, 63, 63, 0, 383, 1023] (by kernel_rfl) (by kernel_rfl) (by simp [hX1, c1, o1, sliceI, p2, p4, lA, q3o, G_tidy_Drop, B_tidy_Drop, oneD, fpAt, fpOf, q0v, ldOf, q0T, q0m, FP.clash, FP.hard, FP.soft, overlap, inR, q0A, q1T, Nat.testBit] <;> rfl) ?_
  dsimp only [okD, q0a]
  have w1 := q1G wA
  have m1 := w1.nx
  have subA : ∀ s, SA s → 1 ≤ s ∧ s < k1.nx := fun s hs => by have := rA s hs; rw [q2J] at this; omega
  refine TW.gen (fun H => H.get 0 = some (.cells 25 [p.types.av LType.cells, p.funcs.av LFunc.cells]) ∧ H.get k1.nx = some (.cells 25 [tvA, fvA]) ∧ OutA (q0Y p f r).2 (outP (q0Y p f r).2 (q0X p).types.list (q8J (q0X p) f r)) (.tup [.agg [tvA, fvA], .int .i64 (q0Y p f r).2]) H SA ∧ H.nx = k1.nx + 1) ⟨?_, ?_, ?_, ?_⟩ fun H hH => ?_
  · rw [q1F, get_put, if_neg (by omega), get_new, if_neg (by omega), w1.get 0 (by omega)]; exact G0
  · rw [q1F, get_put, if_pos rfl]
  · exact OutA.locl _ _ _ _ oA (fun _ h => h) fun s hs => by have := subA s hs; rw [q1F, get_put, if_neg (by omega), get_new, if_neg (by omega)]
  · rw [nx_z, nx_put, nx_new]
  clear c1 o1 hX1 cA leA oA w1 wA wfA rA lA nA rdA hwf G0 eA
  obtain ⟨H0, HA, oA, Hn⟩ := hH
  have eB := Drop27_pure hP hX p hs f (.mk r) hrl
  try refine TW.seq ?_
  refine TW.drawH hP [(q2z, [.agg [p.types.av LType.cells, p.funcs.av LFunc.cells], .int .i64 f, .isl (r.map cI)], .tup [.agg [(q0Y p f r).1.types.av LType.cells, (q0Y p f r).1.funcs.av LFunc.cells], .int .i64 (q0Y p f r).2])] (fun e he => by rcases List.mem_cons.1 he with rfl | he; exact eB; cases he) [0, 0, 0, 4, 15, 31, 63, 63, 0, 383, 1023] (by kernel_rfl) (by kernel_rfl) (by simp [hX, H0, sliceI, q2z, q6Z, q7b, oneD, fpAt, fpOf, q0v, ldOf, q0T, q0m, FP.clash, FP.hard, FP.soft, overlap, inR, q0A, q1T, Nat.testBit] <;> rfl) ?_
  repeat' (refine q1A (fun hb => ?_) (fun hb => ?_) <;> (try simp only [Bool.not_eq_eq_eq_not, Bool.not_true, Bool.not_false] at hb) <;> refine q4H (by simp [hb, hX, H0, sliceI, (show ¬ H.nx ≤ 0 by omega), q2z, q6Z, q7b, oneD, fpAt, fpOf, q0v, ldOf, q0T, q0m, FP.clash, FP.hard, FP.soft, overlap, inR, q0A, q1T, Nat.testBit, show ¬ H.nx + 1 ≤ H.nx by omega, show ¬ H.nx + 2 ≤ H.nx by omega, show ¬ H.nx + 2 ≤ H.nx + 1 by omega, show ¬ H.nx + 3 ≤ H.nx by omega, show ¬ H.nx + 3 ≤ H.nx + 1 by omega, show ¬ H.nx + 3 ≤ H.nx + 2 by omega] <;> rfl) ?_)
  all_goals dsimp only [okD, q0a]
  refine TW.gen (fun H' => H'.get 0 = some (.cells 25 [p.types.av LType.cells, p.funcs.av LFunc.cells]) ∧ H'.get k1.nx = some (.cells 25 [tvA, fvA]) ∧ H'.get H.nx = some (.cells 25 [(q0Y p f r).1.types.av LType.cells, (q0Y p f r).1.funcs.av LFunc.cells]) ∧ OutA (q0Y p f r).2 (outP (q0Y p f r).2 (q0X p).types.list (q8J (q0X p) f r)) (.tup [.agg [tvA, fvA], .int .i64 (q0Y p f r).2]) H' SA ∧ H'.nx = H.nx + 1) ⟨?_, ?_, ?_, ?_, ?_⟩ fun H' hH => ?_
  · rw [q1F, get_put, if_neg (by omega), get_new, if_neg (by omega)]; exact H0
  · rw [q1F, get_put, if_neg (by omega), get_new, if_neg (by omega)]; exact HA
  · rw [q1F, get_put, if_pos rfl]
  · exact OutA.locl _ _ _ _ oA (fun _ h => h) fun s hs => by have := subA s hs; rw [q1F, get_put, if_neg (by omega), get_new, if_neg (by omega)]
  · rw [nx_z, nx_put, nx_new]
  clear H0 HA oA
  obtain ⟨H0, HA, HB, oA, Hn'⟩ := hH
  refine TW.seq (TW.wf fun hwf => ?_)
  obtain ⟨cv, k2, SC, oC, wC, wfC, rC, leC, cC, lC, nC⟩ := Swap_tell hV (q0X p) f a b hst hot H'.up (by rw [up_lo, q2J]) (wf_up hwf)
  have oC' := oC
  obtain ⟨tvC, fvC, fsC, SFC, rfl, ⟨p5, p6, p7, p8⟩, _, _, _, _, _⟩ := oC'
  rw [z1i p f a b] at oC cC
  rw [q2J] at lC nC
  have cC : Calling Tryz.prog F H'.up k2 (.tup [.agg [tvC, fvC], .int .i64 (q1m p f a b).2]) q3n [.agg [(q0X p).types.av LType.cells, (q0X p).funcs.av LFunc.cells], .int .i64 f, .int .i64 a, .int .i64 b] := cC
  have c1 := q5r (gl := gl) (K := K) (f := q3n) (args := [.agg [(q0X p).types.av LType.cells, (q0X p).funcs.av LFunc.cells], .int .i64 f, .int .i64 a, .int .i64 b]) (h := H'.up) (v := .tup [.agg [tvC, fvC], .int .i64 (q1m p f a b).2]) (h1 := k2)
  have o1 := q6t (gl := gl) (K := K) (f := q3n) (args := [.agg [(q0X p).types.av LType.cells, (q0X p).funcs.av LFunc.cells], .int .i64 f, .int .i64 a, .int .i64 b]) (h := H'.up) (v := .tup [.agg [tvC, fvC], .int .i64 (q1m p f a b).2]) (h1 := k2)
  have hX1 := fun f' a' => (show (Ctx.of Tryz.prog gl ((K.tellP q3n [.agg [(q0X p).types.av LType.cells, (q0X p).funcs.av LFunc.cells], .int .i64 f, .int .i64 a, .int .i64 b] H'.up (.tup [.agg [tvC, fvC], .int .i64 (q1m p f a b).2]) k2).tell [])).ext f' a' = none from hX f' a')
  refine TW.drawH (q4M hP leC cC) [] (fun e he => by cases he) [0, 0, 0, 4, 12, 0, 32, 96, 255, 511, 1023, 1023, 0, 6143, 16383] (by kernel_rfl) (by kernel_rfl) (by simp [hX1, c1, o1, p6, p8, lC, ti3, nat0, nat1, q3n, G_tidy_Swap, B_tidy_Swap, oneD, fpAt, fpOf, q0v, ldOf, q0T, q0m, FP.clash, FP.hard, FP.soft, overlap, inR, q0A, q1T, Nat.testBit] <;> rfl) ?_
  dsimp only [okD, q0a]
  have w2 := q1G wC
  have m2 := w2.nx
  have subC : ∀ s, SC s → H.nx + 1 ≤ s ∧ s < k2.nx := fun s hs => by have := rC s hs; rw [q2J] at this; omega
  have lowC : ∀ s, s < H'.nx → (((k2.new (.cells 25 [.nilsl, .nilsl])).put k2.nx (.cells 25 [tvC, fvC])).z).get s = H'.get s := fun s hs => by
    rw [q1F, get_put, if_neg (by omega), get_new, if_neg (by omega), w2.get s hs]
  refine TW.gen (fun J => J.get 0 = some (.cells 25 [p.types.av LType.cells, p.funcs.av LFunc.cells]) ∧ J.get k1.nx = some (.cells 25 [tvA, fvA]) ∧ J.get H.nx = some (.cells 25 [(q0Y p f r).1.types.av LType.cells, (q0Y p f r).1.funcs.av LFunc.cells]) ∧ J.get k2.nx = some (.cells 25 [tvC, fvC]) ∧ OutA (q0Y p f r).2 (outP (q0Y p f r).2 (q0X p).types.list (q8J (q0X p) f r)) (.tup [.agg [tvA, fvA], .int .i64 (q0Y p f r).2]) J SA ∧ OutA (q1m p f a b).2 (outP (q1m p f a b).2 (q0X p).types.list (q9K (q0X p) f a b)) (.tup [.agg [tvC, fvC], .int .i64 (q1m p f a b).2]) J SC ∧ J.nx = k2.nx + 1) ⟨?_, ?_, ?_, ?_, ?_, ?_, ?_⟩ fun J hJ => ?_
  · rw [lowC 0 (by omega)]; exact H0
  · rw [lowC k1.nx (by omega)]; exact HA
  · rw [lowC H.nx (by omega)]; exact HB
  · rw [q1F, get_put, if_pos rfl]
  · exact OutA.locl _ _ _ _ oA (fun _ h => h) fun s hs => by have := subA s hs; rw [lowC s (by omega)]
  · have oC2 : OutA (q1m p f a b).2 (outP (q1m p f a b).2 (q0X p).types.list (q9K (q0X p) f a b)) (.tup [.agg [tvC, fvC], .int .i64 (q1m p f a b).2]) k2 SC := oC
    exact OutA.locl _ _ _ _ oC2 (fun _ h => h) fun s hs => by have := subC s hs; rw [q1F, get_put, if_neg (by omega), get_new, if_neg (by omega)]
  · rw [nx_z, nx_put, nx_new]
  clear c1 o1 hX1 cC leC oC w2 wC wfC rC lC hwf H0 HA HB oA lowC
  obtain ⟨J0, JA, JB, JC, oA, oC, Jn⟩ := hJ
  have eD := Swap27_pure hP hX p hs f a b
  try refine TW.seq ?_
  refine TW.drawH hP [(q2y, [.agg [p.types.av LType.cells, p.funcs.av LFunc.cells], .int .i64 f, .int .i64 a, .int .i64 b], .tup [.agg [(q1m p f a b).1.types.av LType.cells, (q1m p f a b).1.funcs.av LFunc.cells], .int .i64 (q1m p f a b).2])] (fun e he => by rcases List.mem_cons.1 he with rfl | he; exact eD; cases he) [0, 0, 0, 4, 12, 0, 32, 96, 255, 511, 1023, 1023, 0, 6143, 16383] (by kernel_rfl) (by kernel_rfl) (by simp [hX, J0, ti3, nat0, nat1, q2y, q6Y, q7a, oneD, fpAt, fpOf, q0v, ldOf, q0T, q0m, FP.clash, FP.hard, FP.soft, overlap, inR, q0A, q1T, Nat.testBit] <;> rfl) ?_
  repeat' (refine q1A (fun hb => ?_) (fun hb => ?_) <;> (try simp only [Bool.not_eq_eq_eq_not, Bool.not_true, Bool.not_false] at hb) <;> refine q4H (by simp [hb, hX, J0, ti3, nat0, nat1, (show ¬ J.nx ≤ 0 by omega), q2y, q6Y, q7a, oneD, fpAt, fpOf, q0v, ldOf, q0T, q0m, FP.clash, FP.hard, FP.soft, overlap, inR, q0A, q1T, Nat.testBit, show ¬ J.nx + 1 ≤ J.nx by omega, show ¬ J.nx + 2 ≤ J.nx by omega, show ¬ J.nx + 2 ≤ J.nx + 1 by omega, show ¬ J.nx + 3 ≤ J.nx by omega, show ¬ J.nx + 3 ≤ J.nx + 1 by omega, show ¬ J.nx + 3 ≤ J.nx + 2 by omega] <;> rfl) ?_)
  all_goals dsimp only [okD, q0a]
  have lowD : ∀ s, s < J.nx → (((J.new (.cells 25 [.nilsl, .nilsl])).put J.nx (.cells 25 [(q1m p f a b).1.types.av LType.cells, (q1m p f a b).1.funcs.av LFunc.cells])).z).get s = J.get s := fun s hs => by
    rw [q1F, get_put, if_neg (by omega), get_new, if_neg (by omega)]
  refine TW.gen (fun L => L.get 0 = some (.cells 25 [p.types.av LType.cells, p.funcs.av LFunc.cells]) ∧ L.get k1.nx = some (.cells 25 [tvA, fvA]) ∧ L.get H.nx = some (.cells 25 [(q0Y p f r).1.types.av LType.cells, (q0Y p f r).1.funcs.av LFunc.cells]) ∧ L.get k2.nx = some (.cells 25 [tvC, fvC]) ∧ L.get J.nx = some (.cells 25 [(q1m p f a b).1.types.av LType.cells, (q1m p f a b).1.funcs.av LFunc.cells]) ∧ OutA (q0Y p f r).2 (outP (q0Y p f r).2 (q0X p).types.list (q8J (q0X p) f r)) (.tup [.agg [tvA, fvA], .int .i64 (q0Y p f r).2]) L SA ∧ OutA (q1m p f a b).2 (outP (q1m p f a b).2 (q0X p).types.list (q9K (q0X p) f a b)) (.tup [.agg [tvC, fvC], .int .i64 (q1m p f a b).2]) L SC ∧ L.nx = J.nx + 1) ⟨?_, ?_, ?_, ?_, ?_, ?_, ?_, ?_⟩ fun L hL => ?_
  · rw [lowD 0 (by omega)]; exact J0
  · rw [lowD k1.nx (by omega)]; exact JA
  · rw [lowD H.nx (by omega)]; exact JB
  · rw [lowD k2.nx (by omega)]; exact JC
  · rw [q1F, get_put, if_pos rfl]
  · exact OutA.locl _ _ _ _ oA (fun _ h => h) fun s hs => by have := subA s hs; rw [lowD s (by omega)]
  · exact OutA.locl _ _ _ _ oC (fun _ h => h) fun s hs => by have := subC s hs; rw [lowD s (by omega)]
  · rw [nx_z, nx_put, nx_new]
  clear J0 JA JB JC oA oC lowD
  obtain ⟨L0, LA, LB, LC, LD, oA, oC, Ln⟩ := hL
  have fA := fun (L : Hp) (v : LProg) => (show frzV 20 L (.agg [v.types.av LType.cells, v.funcs.av LFunc.cells]) = some (.agg v.cells) by
    show frzV 20 L (.agg v.cells) = _
    rw [progcells]
    unfold frzV
    dsimp only
    simp only [mapO, q6R q7d, q6R z0k])
  have s1 := Same6_pure hP hX hV.E (outP (q0Y p f r).2 (q0X p).types.list (q8J (q0X p) f r)) (q0Y p f r).1 (small_outD hst f r _)
  rw [same_drop] at s1
  have s2 := Same6_pure hP hX hV.E (outP (q1m p f a b).2 (q0X p).types.list (q9K (q0X p) f a b)) (q1m p f a b).1 (small_outS hst f a b _)
  rw [same_swap] at s2
  have s3 := Same6_pure hP hX hV.E (q0X p) p hst
  rw [same_twin] at s3
  refine TW.seq (TW.regG hP (by simp [LA, LB] <;> rfl) ?_)
  dsimp only [goK]
  refine TO.zcall hP q5f s1 (by simp) rfl rfl rfl (by simp <;> rfl) (.cons oA.frz (.cons (fA L _) .nil)) rfl ?_
  refine TO.runsG hP (by simp [LC, LD] <;> rfl) ?_
  dsimp only [goK]
  refine TO.zcall hP q5f s2 (by simp) rfl rfl rfl (by simp <;> rfl) (.cons oC.frz (.cons (fA L _) .nil)) rfl ?_
  refine TO.runsG hP (by simp <;> rfl) ?_
  dsimp only [goK, q0a]
  obtain ⟨tvA', fvA', flA, SFA, hvA, ⟨q1, q2', q3, q4⟩, _, q5, q6, q7, q8⟩ := oA
  simp only [AV.tup.injEq, List.cons.injEq, AV.agg.injEq, and_true] at hvA
  obtain ⟨rfl, rfl⟩ := hvA
  refine TW.seq (TW.regG hP (by simp [LA] <;> rfl) ?_)
  dsimp only [goK]
  refine TO.ccall hP q6K (spoil_mem hP tvA fvA flA SFA L q1 q2' q5 q6 q7 (fun s hs => by have := subA s (q8 s hs); omega)) (by simp) rfl rfl rfl rfl (fun u M ⟨hMn, hM⟩ => ?_)
  refine TO.runsG hP (by simp <;> rfl) ?_
  try dsimp only [goK]
  dsimp only [q0a]
  have M0 : M.get 0 = some (.cells 25 [p.types.av LType.cells, p.funcs.av LFunc.cells]) := by
    rw [hM 0 (by omega) fun h => by have := subA 0 (q8 0 h); omega]; exact L0
  have MC : M.get k2.nx = some (.cells 25 [tvC, fvC]) := by
    rw [hM k2.nx (by omega) fun h => by have := subA _ (q8 _ h); omega]; exact LC
  have oC := OutA.locl _ _ _ _ oC (fun _ h => h) fun s hs => by have := subC s hs; exact hM s (by omega) fun h => by have := subA s (q8 s h); omega
  obtain ⟨tvC', fvC', flC, SFC, hvC, ⟨r1, r2, r3, r4⟩, _, r5, r6, r7, r8⟩ := oC
  simp only [AV.tup.injEq, List.cons.injEq, AV.agg.injEq, and_true] at hvC
  obtain ⟨rfl, rfl⟩ := hvC
  refine TW.seq (TW.regG hP (by simp [MC] <;> rfl) ?_)
  dsimp only [goK]
  refine TO.ccall hP q6K (spoil_mem hP tvC fvC flC SFC M r1 r2 r5 r6 r7 (fun s hs => by have := subC s (r8 s hs); omega)) (by simp) rfl rfl rfl rfl (fun u' N ⟨hNn, hN⟩ => ?_)
  refine TO.runsG hP (by simp <;> rfl) ?_
  try dsimp only [goK]
  dsimp only [q0a]
  have N0 : N.get 0 = some (.cells 25 [p.types.av LType.cells, p.funcs.av LFunc.cells]) := by
    rw [hN 0 (by omega) fun h => by have := subC 0 (r8 0 h); omega]; exact M0
  have s4 := q8a hP (.mk (a :: b :: r)) (.mk (a :: b :: r)) (by simp [Sl.list]; omega)
  rw [show z0h (Sl.mk (a :: b :: r)).list (Sl.mk (a :: b :: r)).list = true by simp [z0h]] at s4
  refine TW.seq (TW.regG hP (by simp [N0] <;> rfl) ?_)
  dsimp only [goK]
  refine TO.zcall hP q5f s3 (by simp) rfl rfl rfl (by simp <;> rfl) (.cons (fA N _) (.cons (fA N _) .nil)) rfl ?_
  refine TO.runsG hP (by simp <;> rfl) ?_
  dsimp only [goK]
  refine TO.scall hP q3d s4 (by simp) rfl rfl rfl rfl ?_
  refine TO.runsG hP (by simp <;> rfl) ?_
  dsimp only [goK, q0a]
  exact TW.ret ⟨.inr rfl, _, _, rfl, rfl, rfl⟩
end Go.Ax
