/- What is proved: the given statement StepTells of this seat, as its card says it, of the given program; there is no condition beyond those of the card. -/
import Derived.Test.YtdfjkochhifpmaaGreatDoorV25
import Derived.Test.YtdfjkochhifpmaaGreatDoorRows
import Derived.Test.YtdfjkochhifpmaaGreatDoorTie
import Derived.Test.YtdfjkochhifpmaaGreatDoorCards
import Derived.Test.YtdfjkochhifpmaaGreatDoorChecked
import Derived.ProofKit
import Derived.LaidMore
import Derived.LaidHandle
import Derived.Stop.Joined
import Derived.SevenTiedAt
set_option linter.unusedSimpArgs false
set_option linter.unusedVariables false
namespace Go.Proofs.YtdfjkochhifpmaaGreatDoor
open Go.ChangeShapes Go.WideShapes Go.ChangeAt Go.WideMaps Go.WideElems Go.RowKit Go.Ax
abbrev x5E:List (String×DataW Unit):=[("fescue/shape.table",Rows.laid_fescue_shape_table)]
theorem own:ownKnob Tryz.prog.godebug=none:=by kernel_rfl
theorem gTable:Tryz.prog.globalNamed "fescue/shape.table" =some 0:=by kernel_rfl
theorem door_met(os:Os)(args:Array Value):laidMetH Tryz.prog x5E ((World.doorLaid Tryz.prog 500 os).forCall (fun _ _=>0) ⟨#[],args,[]⟩).memory:=
 laidMetH_of_parts3 (fuel:=8) (laidMet_of_run' 8 (by kernel_rfl) (by kernel_rfl)) (by kernel_rfl) (by kernel_rfl)
abbrev tabR:List (Nat×List AV):=[(0,q2F)]
abbrev eqR:List Nat:=[q7O,q6o,q5I,q3a]
noncomputable abbrev kn:Knob:=knob eqR []
noncomputable abbrev cx:Ctx:=Ctx.of Tryz.prog (glOf tabR) kn
theorem flatR:x7E cx 4 (((Tryz.prog.globals[0]?).map (·.type)).getD 0) Rows.laid_fescue_shape_table=some q2F:=by kernel_rfl
theorem known{W:World}(h:laidMetH Tryz.prog x5E W):Known Tryz.prog W tabR:=by
 have h':laidMet Tryz.prog [("fescue/shape.table",Rows.laid_fescue_shape_table)] W:=h
 obtain⟨ps,⟨g1,t1,cs1,fuel1,p1,q1,hg1,ht1,hv1,htr1,_,_⟩,_,_⟩:=h'
 obtain rfl:=Y1Y (gTable.symm.trans hg1)
 intro g l hm
 cases Y2d.1 hm
 have hf:=flatR
 rw[ht1]at hf
 simp only[World.var?,gTable,Option.bind_some]at hv1
 split at hv1
 case h_2=>cases hv1
 rename_i arr e fz hw
 cases hv1
 exact⟨_,_,_,hw,fun m=>z6S 4 _ _ _ fuel1 _ p1 hf htr1⟩
theorem eqsR:(eqR.all (z4I Tryz.prog))=true:=by kernel_rfl
theorem namesR:(Tryz.prog.funcs.all fun fn=> !(fn.body.isSome&&fn.name== "runtime.NumGoroutine"))=true:=by kernel_rfl
theorem mixedR:Tryz.prog.follows .mixedOrders=true:=by kernel_rfl
theorem envR{W:World}(h:laidMetH Tryz.prog x5E W):Env2 (Go.Ax.frozen W) (glOf tabR) kn:=
 ⟨⟨pok_of (known h) eqsR namesR mixedR .nil,rfl,rfl,rfl,fun _ _=>rfl⟩,rfl⟩
theorem laidOut:laidOutB Tryz.prog=true:=by kernel_rfl
theorem mapsR:mapsRowed Tryz.prog=true:=by kernel_rfl
theorem slicesR:((List.range Tryz.prog.types.size).all fun t=>match Tryz.prog.underlying t with|some (.slice e)=>decide (0<Tryz.prog.cellsOf e)|_=>true)=true:=by kernel_rfl
theorem size25:25<Tryz.prog.types.size:=Y3x (by kernel_rfl)
def zeroP:Value:=.agg #[.slice none 0 0,.slice none 0 0]
set_option maxRecDepth 100000 in
set_option maxHeartbeats 4000000 in
theorem z5K(os:Os)(started:os.Started)(H:Type)(enc:TypeId×Value→H):
  ReturnsInHanded {} Tryz.checked os 3 .any (fun w args=>(Rows.stepTellsSpec.pre enc Tryz.prog Tryz.f3 [] false w args∧laidMetH Tryz.prog x5E w)∧sizedMet enc Tryz.prog Tryz.f3 (OpenSpec.ofChange Rows.stepTellsSpec) false w args)
   (Rows.stepTellsSpec.post enc Tryz.prog Tryz.f3 false true false false):=by
 refine returnsInHanded_of_change_and (C:=Tryz.checked) (X:=fun w _=>laidMetH Tryz.prog x5E w) (fun _ _ _ hh h=>h.of_heap hh) own started (by as_aux_lemma=>kernel_rfl) Tryz.func3
  (ChangeSpec.witness_shaped (enc:=enc) (C:=Tryz.checked) (os:=os) (X:=fun w _=>laidMetH Tryz.prog x5E w) false (World.doorLaid Tryz.prog 500 os) #[zeroP] 8 rfl (World.shaped_of_RefB (by as_aux_lemma=>kernel_rfl) (by as_aux_lemma=>kernel_rfl)) (by as_aux_lemma=>kernel_rfl) (by as_aux_lemma=>kernel_rfl) (by as_aux_lemma=>kernel_rfl) (door_met os _)) ?_
 intro W base args ds gs before hval0 hW _ hsz0 hL _
 have hW':=hW
 have hlt:=fun p hp=>hW'.lt p hp
 obtain⟨p,q,hA0,hV,rfl,hfz,hnd⟩:=hW
 have hA:DataW.TrodAll enc Tryz.prog W 0 (fun _=>true) true Tryz.f3.params.toList args.toList ds p:=hA0
 have hA1:=hA
 rw[Tryz.params3]at hA
 obtain⟨rfl,rfl⟩:=trodVars_none hV
 have hsz:(DataW.weightsEach Tryz.prog (Tryz.f3.params.toList++[]) (ds++[])).all (·≤reachBytes)=true:=hsz0
 rw[Tryz.params3,List.append_nil,List.append_nil]at hsz
 obtain⟨u,d,rfl,rfl,h1⟩:=trodAll_one hA
 obtain⟨pr,gp,r1⟩:=prog_rel (m:=⟨fun _=>none,fun _=>none⟩) h1 (okW_of hsz (i:=0) rfl rfl)
 refine(law_pure (.cons r1 .nil) (z8e (envR hL) rfl pr (fun f hf b hb=>(gp f hf b hb).1) gp.ops)).mono fun e' W' ⟨he,hb⟩=> ?_
 subst he
 refine⟨_,rfl,_,_,_,[],p,[],hW',?_,?_,?_,hb.frame _,fun h=>by cases h⟩
 ·exact trodAll_mk1 (shut_bool Tryz.underlying4 true)
 ·exact z3P laidOut mapsR slicesR hb (fun t ht=>by
   rw[Tryz.params3]at ht
   have:t=25:=by simpa using ht
   rw[this]
   exact size25) hA1 (fun x hx=>hlt x (by simpa using hx))
 ·rfl
theorem and2{a b:Bool}(h:a=true)(k:b=true):(a&&b)=true:=by rw[h,k];rfl
set_option maxHeartbeats 4000000 in
theorem stepTells_holds:Rows.StepTellsSaid:=
  OpenClaim.holds_of_wide 3 Tryz.f3 rfl rfl rfl rfl rfl rfl rfl ⟨rfl,rfl,rfl,rfl,rfl⟩ rfl rfl rfl rfl rfl (by kernel_rfl) Tryz.func3 (by
      unfold joinedFacts
      repeat' (with_reducible refine and2 ?_ ?_)
      all_goals (as_aux_lemma=>kernel_rfl))
    (Y3x (by kernel_rfl)) (by unfold Func.isWrapper;first|(rw[Y0e (by decide+kernel)];kernel_rfl)|(rw[Y0c (by decide+kernel)];exact⟨rfl,rfl⟩))
    (fun os started H enc _=>z5K os started H enc)
set_option maxHeartbeats 4000000 in
theorem stepTells_card:Rows.StepTellsCardSaid:=
  Claim7.holds_tied_plain_at .later [] [.data] true (true, "7f0e197a7e5d58f74c6c9f1ba1c296ee1089329aa7f2eb9dda46b7534e29acca") true
    stepTells_holds (fun _ h=>by cases h) (by as_aux_lemma=>kernel_rfl) (fun _ h=>by cases h) stepTells_row_tie rfl ⟨rfl,rfl⟩ (by as_aux_lemma=>kernel_rfl) rfl
    (fun f fn hf hfn=>by
      obtain rfl:f=3:=Y1Y ((show Tryz.prog.funcNamed "fescue/fescuelaw16.StepTells" =some 3 by kernel_rfl).symm.trans hf)|>.symm
      obtain rfl:fn=Tryz.f3:=(Y1Y (Tryz.func3.symm.trans hfn)).symm
      exact⟨by as_aux_lemma=>kernel_rfl,fun j t ht=>by
        rw[Tryz.params3]at ht
        have hm:t∈ [25]:=by simpa using Array.mem_of_getElem? ht
        have hall:([25].all fun u=> !Tryz.prog.wantsStandIn u)=true:=by kernel_rfl
        exact(show Tryz.prog.wantsStandIn t=false by simpa using Y0G.1 hall t hm)⟩)
    (by as_aux_lemma=>kernel_rfl)
end Go.Proofs.YtdfjkochhifpmaaGreatDoor
