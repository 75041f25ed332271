import Derived.Test.YtdfjkochhifpmaaGreatDoorV13
set_option linter.unusedSimpArgs false
set_option linter.unusedVariables false
set_option maxRecDepth 20000
noncomputable section
namespace Go.Ax
open Go.Proofs
attribute [local irreducible] TW TO CallsT PureC
variable{F:Nat→Option Obj}{gl:Nat→AV}{K:Knob}{S S':Nat→Prop}
set_option maxHeartbeats 4000000 in
theorem ins_p0(hP:POk Tryz.prog F gl K)(hE:K.eqT q6o=true)(x:LIns)(z:LSizes)(e1:PureC Tryz.prog F q9m [.int .u8 x.op] (.agg [.bool false,.bool false,.bool false,.bool false,.bool false,.bool false]))(hal:x.args.list.length<1000000)(hfl:x.frm.list.length<1000000):PureC Tryz.prog F q7X [.agg x.cells,.agg z.cells] (.bool (insF false false false false false false (q6x x z) x z)):=by
 refine zP z7z ?_
 have heq:=eq_has (gl:=gl) hE false false false false false false
 dsimp only[x0w,q6o]at heq
 have ea:=q2b hP x.a z.regs
 have eb:=q2b hP x.b z.regs
 have et:=q2b hP x.type z.types
 have el:=z6m hP z.regs x.args hal
 have ef:=z6m hP z.blocks x.frm hfl
 have en:=z7h hP x z
 refine zG ?_
 repeat refine Y2v ?_
 refine Y2W hP (by simp<;>rfl) ?_
 dsimp only[goK]
 refine Y2O hP z1L (e1) (by simp) rfl rfl rfl rfl ?_
 refine Y2X hP (by simp<;>rfl) ?_
 dsimp only[goK,q0a]
 refine Y2U (fun g=>g.get 0=some (.cells q1e x.cells)∧g.get 1=some (.cells q3J z.cells)∧g.get 2=some (.cells q6o [.bool false,.bool false,.bool false,.bool false,.bool false,.bool false])) ⟨by simp[get_put],by simp[get_put],by simp[get_put]⟩ fun g hgg=> ?_
 obtain⟨hg0,hg1,hg2⟩:=hgg
 dsimp only[q1e,q3J,q6o]at hg0 hg1 hg2
 refine Y3r (fun _:Unit=>[(2,.ptr 0 0),(3,.ptr 1 0),(5,.ptr 2 0)]) (fun _ g=>g.get 0=some (.cells q1e x.cells)∧g.get 1=some (.cells q3J z.cells)∧g.get 2=some (.cells q6o [.bool false,.bool false,.bool false,.bool false,.bool false,.bool false])∧False) ?_ ?_
 ·refine zA4f (zc @hg0 (zc @hg1 (zc @hg2 @heq))) q0G ea q0G eb z2R el z2p en ?_
  all_goals clear ea eb et el ef en e1 heq
  all_goals (focus(simp_all[insF];done))
 rintro _ g ⟨_,_,_,h⟩
 exact h.elim
set_option maxHeartbeats 4000000 in
theorem q4A(hP:POk Tryz.prog F gl K)(hE:K.eqT q6o=true)(x:LIns)(z:LSizes){b0 b1 b2 b3 b4 b5:Bool}(hbs:(b0,b1,b2,b3,b4,b5)∈ [(false,false,true,false,false,true),(false,false,false,false,false,true),(true,true,false,false,false,true),(true,false,false,false,false,false),(true,false,true,false,false,true),(true,false,false,false,false,true),(true,true,false,false,false,false),(false,false,true,true,false,true),(true,false,false,true,false,true),(false,false,false,true,true,true)])(e1:PureC Tryz.prog F q9m [.int .u8 x.op] (.agg [.bool b0,.bool b1,.bool b2,.bool b3,.bool b4,.bool b5]))(hal:x.args.list.length<1000000)(hfl:x.frm.list.length<1000000):PureC Tryz.prog F q7X [.agg x.cells,.agg z.cells] (.bool (insF b0 b1 b2 b3 b4 b5 (q6x x z) x z)):=by
 refine zP z7z ?_
 simp only[Y2k,Prod.mk.injEq,List.not_mem_nil,or_false]at hbs
 have heq:=eq_has (gl:=gl) hE b0 b1 b2 b3 b4 b5
 dsimp only[x0w,q6o]at heq
 have ea:=q2b hP x.a z.regs
 have eb:=q2b hP x.b z.regs
 have et:=q2b hP x.type z.types
 have el:=z6m hP z.regs x.args hal
 have ef:=z6m hP z.blocks x.frm hfl
 have en:=z7h hP x z
 refine zG ?_
 repeat refine Y2v ?_
 refine Y2W hP (by simp<;>rfl) ?_
 dsimp only[goK]
 refine Y2O hP z1L (e1) (by simp) rfl rfl rfl rfl ?_
 refine Y2X hP (by simp<;>rfl) ?_
 dsimp only[goK,q0a]
 refine Y2U (fun g=>g.get 0=some (.cells q1e x.cells)∧g.get 1=some (.cells q3J z.cells)∧g.get 2=some (.cells q6o [.bool b0,.bool b1,.bool b2,.bool b3,.bool b4,.bool b5])) ⟨by simp[get_put],by simp[get_put],by simp[get_put]⟩ fun g hgg=> ?_
 obtain⟨hg0,hg1,hg2⟩:=hgg
 dsimp only[q1e,q3J,q6o]at hg0 hg1 hg2
 refine Y3r (fun _:Unit=>[(2,.ptr 0 0),(3,.ptr 1 0),(5,.ptr 2 0)]) (fun _ g=>g.get 0=some (.cells q1e x.cells)∧g.get 1=some (.cells q3J z.cells)∧g.get 2=some (.cells q6o [.bool b0,.bool b1,.bool b2,.bool b3,.bool b4,.bool b5])∧(b0=true→q2h x.a z.regs=true)∧(b1=true→q2h x.b z.regs=true)∧q2f z.regs x.args.list=true∧q6x x z=true) ?_ ?_
 ·rcases hbs with⟨rfl,rfl,rfl,rfl,rfl,rfl⟩|⟨rfl,rfl,rfl,rfl,rfl,rfl⟩|⟨rfl,rfl,rfl,rfl,rfl,rfl⟩|⟨rfl,rfl,rfl,rfl,rfl,rfl⟩|⟨rfl,rfl,rfl,rfl,rfl,rfl⟩|⟨rfl,rfl,rfl,rfl,rfl,rfl⟩|⟨rfl,rfl,rfl,rfl,rfl,rfl⟩|⟨rfl,rfl,rfl,rfl,rfl,rfl⟩|⟨rfl,rfl,rfl,rfl,rfl,rfl⟩|⟨rfl,rfl,rfl,rfl,rfl,rfl⟩
  repeat' first|refine zA4f (zc @hg0 (zc @hg1 (zc @hg2 @heq))) q0G ea q0G eb z2R el z2p en ?_|refine zSf (zc @hg0 (zc @hg1 (zc @hg2 @heq))) (fun hb=> ?_) (fun hb=> ?_)|(refine Y2w hP rfl (fun hc=> ?_) (fun hc=> ?_)<;>simp at hc)
  all_goals clear ea eb et el ef en e1 heq
  all_goals first|(refine⟨(),rfl,?_,hg0,hg1,hg2,?_,?_,?_,?_⟩<;>first|(focus((repeat' first|exact q0h|refine q0e (by simp) ?_);done))|(focus(simp_all;done)))|(focus(simp_all[insF];done))
 rintro _ g ⟨hg0,hg1,hg2,ha1,ha2,ha3,ha4⟩
 dsimp only[q1e,q3J,q6o]at hg0 hg1 hg2
 rcases hbs with⟨rfl,rfl,rfl,rfl,rfl,rfl⟩|⟨rfl,rfl,rfl,rfl,rfl,rfl⟩|⟨rfl,rfl,rfl,rfl,rfl,rfl⟩|⟨rfl,rfl,rfl,rfl,rfl,rfl⟩|⟨rfl,rfl,rfl,rfl,rfl,rfl⟩|⟨rfl,rfl,rfl,rfl,rfl,rfl⟩|⟨rfl,rfl,rfl,rfl,rfl,rfl⟩|⟨rfl,rfl,rfl,rfl,rfl,rfl⟩|⟨rfl,rfl,rfl,rfl,rfl,rfl⟩|⟨rfl,rfl,rfl,rfl,rfl,rfl⟩
 repeat' first|refine zA2f (zc @hg0 (zc @hg1 @hg2)) q0G et z2R ef ?_|refine zSf (zc @hg0 (zc @hg1 @hg2)) (fun hb=> ?_) (fun hb=> ?_)|fail
 all_goals clear ea eb et el ef en e1 heq hg0 hg1 hg2
 all_goals first|(focus(simp_all[insF];done))|(focus(simp_all[insF];omega))|(focus(rw[AV.bool.injEq,Y1e];simp_all[insF];omega))|(focus(rcases Nat.eq_zero_or_pos x.frm.list.length with hz|hz;(exfalso;simp only[Y2h,Y3s]at*;omega);(rw[insF,Y2F (Nat.ne_of_gt hz)];simp);done))|(focus(rcases Nat.eq_zero_or_pos x.args.list.length with hz|hz;(exfalso;simp only[Y2h,Y3s]at*;omega);(rw[insF,Y2F (Nat.ne_of_gt hz)];simp);done))
end Go.Ax
