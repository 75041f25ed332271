import Derived.Test.YtdfjkochhifpmaaGreatDoorV14
set_option linter.unusedSimpArgs false
set_option linter.unusedVariables false
set_option maxRecDepth 20000
noncomputable section
namespace Go.Ax
open Go.Proofs
attribute [local irreducible] TW TO CallsT PureC
variable{F:Nat→Option Obj}{gl:Nat→AV}{K:Knob}{S S':Nat→Prop}
theorem x6w(x:LIns)(k:Int):q2R (q1c x) k=((!q2e x.op||q2h x.a k)&&((!two6 x.op||q2h x.b k)&&(!q0C x.op||q2f k x.args.list))):=by
 unfold q1c q2R q2h q2f
 rw[Y3p,Y3p]
 cases q2e x.op<;>cases two6 x.op<;>cases q0C x.op<;>simp
theorem x5S{k:Int}{l:List Int}(h:l.length=0):q2f k l=true:=by
 rw[Y1y h];rfl
theorem insF_eq(x:LIns)(z:LSizes):insF (q2e x.op) (two6 x.op) (z8X x.op) (q0C x.op) (decide (x.op=22)) (q2K x.op) (q6x x z) x z=q2u z.types z.funcs x z.regs z.blocks:=by
 have h0:=x5S (k:=z.regs) (l:=x.args.list)
 have h1:(q2e x.op||(two6 x.op||(z8X x.op||(q0C x.op||(decide (x.op=22)||q2K x.op)))))=(decide (1≤x.op)&&decide (x.op≤22)):=by
  rw[Y1e]
  simp[q2e,two6,z8X,q0C,q2K]
  omega
 have h2:(q6x x z&&(z8X x.op||decide (x.n=0)))=x2J z.funcs x:=by
  rw[Y1e]
  unfold q6x x2J z8X
  by_cases a1:x.op=1
  ·simp[a1]
  by_cases a2:x.op=3
  ·simp[a2]
  by_cases a3:x.op=18
  ·simp[a3]
  by_cases a4:x.op=14
  ·simp[a4]
  simp[a1,a2,a3,a4]
 have h3:x.op=22→q0C x.op=true:=fun h=>by rw[h];rfl
 unfold insF q2u z4F z4E z4D z2t
 rw[h1,x6w,←h2]
 rw[show q2R x.frm.list z.blocks=q2f z.blocks x.frm.list from rfl]
 clear h1 h2
 generalize q6x x z=nu at*
 generalize z8X x.op=hn at*
 generalize q2e x.op=ha at*
 generalize two6 x.op=h2 at*
 generalize q0C x.op=hg at*
 generalize q2K x.op=hs at*
 generalize q2f z.regs x.args.list=tr at*
 generalize q2f z.blocks x.frm.list=tb at*
 generalize x.args.list.length=na at*
 generalize x.frm.list.length=nf at*
 unfold q2h
 rw[Y1e]
 cases nu
 ·simp
 by_cases h22:x.op=22
 ·have hgt:=h3 h22
  subst hgt
  simp only[h22,decide_true,Y1n]
  cases hs<;>cases ha<;>cases h2<;>cases hn<;>cases tr<;>cases tb<;>simp<;>omega
 ·simp only[h22,decide_false,Y1m]
  cases hs<;>cases hg<;>cases ha<;>cases h2<;>cases hn<;>cases tr<;>simp at h0⊢<;>omega
theorem ins_pure(hP:POk Tryz.prog F gl K)(hG:gl q3G= .iptr [q2F] 0 0)(hE:K.eqT q6o=true)(x:LIns)(z:LSizes)(h0:0≤x.op)(h1:x.op<256)(hal:x.args.list.length<900000)(hfl:x.frm.list.length<900000):PureC Tryz.prog F q7X [.agg x.cells,.agg z.cells] (.bool (q2u z.types z.funcs x z.regs z.blocks)):=by
  have e1:=of_pure hP hG x.op h0 h1
  have he:=insF_eq x z
  obtain⟨n,hn⟩:=Y3j h0
  rw[←he]
  clear he
  by_cases h23:n<23
  · match n,hn,h23 with
    | 0,hn,_=>
      have hn:x.op=0:=hn
      rw[show hasS x.op=hasS 0 by rw[hn]]at e1
      have:=ins_p0 hP hE x z e1 (by omega) (by omega)
      rw[hn];exact this
    | 1,hn,_=>
      have hn:x.op=1:=hn
      rw[show hasS x.op=hasS 1 by rw[hn]]at e1
      have:=q4A hP hE x z (by decide) e1 (by omega) (by omega)
      rw[hn];exact this
    | 2,hn,_=>
      have hn:x.op=2:=hn
      rw[show hasS x.op=hasS 2 by rw[hn]]at e1
      have:=q4A hP hE x z (by decide) e1 (by omega) (by omega)
      rw[hn];exact this
    | 3,hn,_=>
      have hn:x.op=3:=hn
      rw[show hasS x.op=hasS 3 by rw[hn]]at e1
      have:=q4A hP hE x z (by decide) e1 (by omega) (by omega)
      rw[hn];exact this
    | 4,hn,_=>
      have hn:x.op=4:=hn
      rw[show hasS x.op=hasS 4 by rw[hn]]at e1
      have:=q4A hP hE x z (by decide) e1 (by omega) (by omega)
      rw[hn];exact this
    | 5,hn,_=>
      have hn:x.op=5:=hn
      rw[show hasS x.op=hasS 5 by rw[hn]]at e1
      have:=q4A hP hE x z (by decide) e1 (by omega) (by omega)
      rw[hn];exact this
    | 6,hn,_=>
      have hn:x.op=6:=hn
      rw[show hasS x.op=hasS 6 by rw[hn]]at e1
      have:=q4A hP hE x z (by decide) e1 (by omega) (by omega)
      rw[hn];exact this
    | 7,hn,_=>
      have hn:x.op=7:=hn
      rw[show hasS x.op=hasS 7 by rw[hn]]at e1
      have:=q4A hP hE x z (by decide) e1 (by omega) (by omega)
      rw[hn];exact this
    | 8,hn,_=>
      have hn:x.op=8:=hn
      rw[show hasS x.op=hasS 8 by rw[hn]]at e1
      have:=q4A hP hE x z (by decide) e1 (by omega) (by omega)
      rw[hn];exact this
    | 9,hn,_=>
      have hn:x.op=9:=hn
      rw[show hasS x.op=hasS 9 by rw[hn]]at e1
      have:=q4A hP hE x z (by decide) e1 (by omega) (by omega)
      rw[hn];exact this
    | 10,hn,_=>
      have hn:x.op=10:=hn
      rw[show hasS x.op=hasS 10 by rw[hn]]at e1
      have:=q4A hP hE x z (by decide) e1 (by omega) (by omega)
      rw[hn];exact this
    | 11,hn,_=>
      have hn:x.op=11:=hn
      rw[show hasS x.op=hasS 11 by rw[hn]]at e1
      have:=q4A hP hE x z (by decide) e1 (by omega) (by omega)
      rw[hn];exact this
    | 12,hn,_=>
      have hn:x.op=12:=hn
      rw[show hasS x.op=hasS 12 by rw[hn]]at e1
      have:=q4A hP hE x z (by decide) e1 (by omega) (by omega)
      rw[hn];exact this
    | 13,hn,_=>
      have hn:x.op=13:=hn
      rw[show hasS x.op=hasS 13 by rw[hn]]at e1
      have:=q4A hP hE x z (by decide) e1 (by omega) (by omega)
      rw[hn];exact this
    | 14,hn,_=>
      have hn:x.op=14:=hn
      rw[show hasS x.op=hasS 14 by rw[hn]]at e1
      have:=q4A hP hE x z (by decide) e1 (by omega) (by omega)
      rw[hn];exact this
    | 15,hn,_=>
      have hn:x.op=15:=hn
      rw[show hasS x.op=hasS 15 by rw[hn]]at e1
      have:=q4A hP hE x z (by decide) e1 (by omega) (by omega)
      rw[hn];exact this
    | 16,hn,_=>
      have hn:x.op=16:=hn
      rw[show hasS x.op=hasS 16 by rw[hn]]at e1
      have:=q4A hP hE x z (by decide) e1 (by omega) (by omega)
      rw[hn];exact this
    | 17,hn,_=>
      have hn:x.op=17:=hn
      rw[show hasS x.op=hasS 17 by rw[hn]]at e1
      have:=q4A hP hE x z (by decide) e1 (by omega) (by omega)
      rw[hn];exact this
    | 18,hn,_=>
      have hn:x.op=18:=hn
      rw[show hasS x.op=hasS 18 by rw[hn]]at e1
      have:=q4A hP hE x z (by decide) e1 (by omega) (by omega)
      rw[hn];exact this
    | 19,hn,_=>
      have hn:x.op=19:=hn
      rw[show hasS x.op=hasS 19 by rw[hn]]at e1
      have:=q4A hP hE x z (by decide) e1 (by omega) (by omega)
      rw[hn];exact this
    | 20,hn,_=>
      have hn:x.op=20:=hn
      rw[show hasS x.op=hasS 20 by rw[hn]]at e1
      have:=q4A hP hE x z (by decide) e1 (by omega) (by omega)
      rw[hn];exact this
    | 21,hn,_=>
      have hn:x.op=21:=hn
      rw[show hasS x.op=hasS 21 by rw[hn]]at e1
      have:=q4A hP hE x z (by decide) e1 (by omega) (by omega)
      rw[hn];exact this
    | 22,hn,_=>
      have hn:x.op=22:=hn
      rw[show hasS x.op=hasS 22 by rw[hn]]at e1
      have:=q4A hP hE x z (by decide) e1 (by omega) (by omega)
      rw[hn];exact this
    |n+23,_,h=>exact absurd h (by omega)
  · have ho:=x5i (op:=x.op) (by omega)
    rw[ho]at e1
    have:=ins_p0 hP hE x z e1 (by omega) (by omega)
    simp only[hasS,Y1g,AV.bool.injEq]at ho
    rw[ho.1,ho.2.1,ho.2.2.1,ho.2.2.2.1,ho.2.2.2.2.1,ho.2.2.2.2.2.1]
    exact this
theorem eq_end(hE:K.eqT q7O=true)(x y:LEnd):q0B (Ctx.of Tryz.prog gl K) .eql q7O (.agg x.cells) (.agg y.cells)=some (.bool (q7f x y)):=by
 have h1:(Ctx.of Tryz.prog gl K).eqT q7O=true:=hE
 show(bif q6p (Ctx.of Tryz.prog gl K) q7O (.agg x.cells) (.agg y.cells)then(match eqA (Ctx.of Tryz.prog gl K) 100 q7O (.agg x.cells) (.agg y.cells)with|some b=>some (AV.bool b)|none=>none)else none)=_
 have h2:q6p (Ctx.of Tryz.prog gl K) q7O (.agg x.cells) (.agg y.cells)=true:=h1
 have h3:eqA (Ctx.of Tryz.prog gl K) 100 q7O (.agg x.cells) (.agg y.cells)=some (q7f x y):=by
  dsimp only[q7O]at h1⊢
  by_cases e1:x.kind=y.kind<;>by_cases e2:x.a=y.a<;>by_cases e3:x.to=y.to<;>by_cases e4:x.els=y.els<;>
   simp[eqA,z0x,eqFields,h1,q7f,e1,e2,e3,e4,q2s,q7R,LEnd.cells]
 rw[h2,h3];rfl
theorem end_pure(hP:POk Tryz.prog F gl K)(hE:K.eqT q7O=true)(x:LEnd)(z:LSizes):PureC Tryz.prog F z2K [.agg x.cells,.agg z.cells] (.bool (q4H x z.regs z.blocks)):=by
 refine zP x4A ?_
 have q1:=eq_end (gl:=gl) hE x ⟨x.kind,0,x.to,0⟩
 have q2:=eq_end (gl:=gl) hE x ⟨x.kind,x.a,0,0⟩
 dsimp only[q7O,LEnd.cells]at q1 q2
 have ea:=q2b hP x.a z.regs
 have et:=q2b hP x.to z.blocks
 have ee:=q2b hP x.els z.blocks
 by_cases h1:x.kind=1
 ·rw[h1]at q1
  repeat' first|refine zA1f (zc @h1 @q1) q0G et ?_|refine zSf (zc @h1 @q1) (fun hb=> ?_) (fun hb=> ?_)|fail
  all_goals clear ea et ee
  all_goals (rw[AV.bool.injEq,Y1e];simp_all[q4H,q7f,q2R,q2h];try omega)
 by_cases h2:x.kind=2
 ·repeat' first|refine zA3f @h2 q0G ea q0G et q0G ee ?_|refine zSf @h2 (fun hb=> ?_) (fun hb=> ?_)|fail
  all_goals clear ea et ee q1 q2
  all_goals (rw[AV.bool.injEq,Y1e];simp_all[q4H,q7f,q2R,q2h];try omega)
 by_cases h3:x.kind=3
 ·rw[h3]at q2
  repeat' first|refine zA1f (zc @h3 @q2) q0G ea ?_|refine zSf (zc @h3 @q2) (fun hb=> ?_) (fun hb=> ?_)|fail
  all_goals clear ea et ee
  all_goals (rw[AV.bool.injEq,Y1e];simp_all[q4H,q7f,q2R,q2h];try omega)
 refine zA0f (zc @h1 (zc @h2 @h3)) ?_
 all_goals clear ea et ee
 all_goals simp[q4H,h1,h2,h3]
structure OpsOk(f:LFunc):Prop where
 op:∀b∈f.blocks.list,∀x∈b.ins.list,0≤x.op∧x.op<256
structure Env(F:Nat→Option Obj)(gl:Nat→AV)(K:Knob):Prop where
 P:POk Tryz.prog F gl K
 G:gl q3G= .iptr [q2F] 0 0
 H:K.eqT q6o=true
 E:K.eqT q7O=true
 X:∀f a,K.ext f a=none
theorem fn1_qt(hV:Env F gl K)(x:LIns)(z:LSizes)(h:Hp)(r:Nat)(hr:h.get r=some (.cells q3J z.cells))(hrn:r<h.nx)(h0:0≤x.op∧x.op<256)(hal:x.args.list.length<900000)(hfl:x.frm.list.length<900000):
  Qt Tryz.prog F h (.bool (!q2u z.types z.funcs x z.regs z.blocks)) q1K [.agg x.cells,.ptr r 0]:=by
 have hP:=hV.P
 refine Y2y hP q0f z4n rfl rfl ?_
 have e1:=ins_pure hP hV.G hV.H x z h0.1 h0.2 hal hfl
 dsimp only[q3J]at hr
 refine zG ?_
 refine Y2U (fun g=>g.get h.nx=some (.cells q1e x.cells)∧g.get r=some (.cells q3J z.cells)∧Wid h g) ⟨by simp,by rw[get_new,Y0c (by omega)];exact hr,(Y2M h).new _⟩ fun g hg=> ?_
 obtain⟨g1,g2,hw⟩:=hg
 dsimp only[q1e,q3J]at g1 g2
 refine zR1f (zc @g1 @g2) x4r e1 ?_
 refine Y2u ⟨.inr rfl,g,_,rfl,rfl,?_,hw⟩
 simp[q0q]
theorem fn2_qt(hV:Env F gl K)(b:LBlock)(z:LSizes)(h:Hp)(r q:Nat)(hr:h.get r=some (.cells q3J z.cells))(hrn:r<h.nx)(e:TypeId)(hq:h.get q=some (.cells e [.fn (.func q1K) [] [.ptr r 0]]))(hqn:q<h.nx)(hil:b.ins.list.length<1000000)(h0:∀x∈b.ins.list,(0≤x.op∧x.op<256)∧x.args.list.length<900000∧x.frm.list.length<900000):
    Qt Tryz.prog F h (.bool (!(b.ins.list.all (fun x=>q2u z.types z.funcs x z.regs z.blocks)&&q4H b.ed z.regs z.blocks))) q3V [.agg b.cells,.ptr q 0,.ptr r 0]:=by
  have hP:=hV.P
  refine Y2y hP q0f z4m rfl rfl ?_
  have e1:=end_pure hP hV.E b.ed z
  dsimp only[q3J]at hr
  refine zG ?_
  refine Y2U (fun g=>g.get h.nx=some (.cells q1Q b.cells)∧g.get r=some (.cells q3J z.cells)∧g.get q=some (.cells e [.fn (.func q1K) [] [.ptr r 0]])∧Wid h g∧h.nx<g.nx) ⟨by simp,by rw[get_new,Y0c (by omega)];exact hr,by rw[get_new,Y0c (by omega)];exact hq,(Y2M h).new _,by simp⟩ fun g hg=> ?_
  obtain⟨g1,g2,g3,hw,hwn⟩:=hg
  dsimp only[q1Q,q3J,LBlock.cells,LEnd.cells]at g1 g2
  have e2:=z5g hP b.ins q1K [.ptr r 0] (fun x=> !q2u z.types z.funcs x z.regs z.blocks) z4h g hil (fun x hx h' hw'=>fn1_qt hV x z h' r (hw'.at g2 (by omega)) (by have:=hw'.nx;omega) (h0 x hx).1 (h0 x hx).2.1 (h0 x hx).2.2)
  have hall:b.ins.list.any (fun x=> !q2u z.types z.funcs x z.regs z.blocks)= !b.ins.list.all (fun x=>q2u z.types z.funcs x z.regs z.blocks):=by
    rw[Y3k]
  rw[hall]at e2
  refine zR0f (zc @g1 (zc @g2 @g3)) ?_
  cases hA:b.ins.list.all (fun x=>q2u z.types z.funcs x z.regs z.blocks)with
  | true=>
    rw[hA]at e2
    refine Y2N hP q2j e2 (by simp) rfl rfl rfl rfl fun k hk=> ?_
    have k1:=hk.at g1 (by omega)
    have k2:=hk.at g2 (by omega)
    refine Y2X hP (by simp[k1,k2]<;>rfl) ?_
    dsimp only[goK]
    refine zR1 x4s e1 ?_
    refine Y2u ⟨.inr rfl,k,_,rfl,rfl,?_,hw.trans hk⟩
    simp[q0q]
  | false=>
    rw[hA]at e2
    refine Y2N hP q2j (e2) (by simp) rfl rfl rfl rfl fun k hk=> ?_
    refine Y2X hP (by simp<;>rfl) ?_
    try dsimp only[goK]
    refine zR0 ?_
    refine Y2u ⟨.inr rfl,k,_,rfl,rfl,?_,hw.trans hk⟩
    simp[q0q]
theorem x8u{α:Type}{e:α→List AV}(x:Sl α):(x.av e= .nilsl∧x.list.length=0)∨x.av e= .isl (x.list.map e):=by cases x<;>simp[Sl.av,Sl.list]
theorem z9W(hV:Env F gl K)(p:LProg)(f:LFunc)(hs:SmallF f)(ho:OpsOk f)(hp:∀x∈p.types.list,x.parts.list.length<900000):PureC Tryz.prog F q7k [.agg p.cells,.agg f.cells] (.bool (q1b p f)):=by
  have hP:=hV.P
  have hX:=hV.X
  have hnb:=hs.nb
  have hsm:=hs.many
  have e1:=x1c hP f hs
  have ea:=q2b hP f.sig p.types.list.length
  have eb:=q2b hP (f.blocks.list.length-1) 16
  have hw1:=w64e (n:=(f.blocks.list.length:Int)-1) (by omega) (by omega)
  refine zP z5Z ?_
  refine zG ?_
  refine Y2U (fun g=>g.get 0=some (.cells q0o p.cells)∧g.get 1=some (.cells q4C f.cells)∧g.nx=2) ⟨by simp,by simp,by simp⟩ fun g hgg=> ?_
  obtain⟨hg0,hg1,hnx⟩:=hgg
  dsimp only[q4C,q0o]at hg0 hg1
  refine Y3r (fun _:Unit=>[(2,.ptr 0 0),(3,.ptr 1 0)]) (fun _ g=>g.get 0=some (.cells q0o p.cells)∧g.get 1=some (.cells q4C f.cells)∧g.nx=2∧q3o p f=false) ?_ ?_
  · by_cases h0:0≤f.sig
    · obtain⟨n,hn⟩:=Y3j h0
      by_cases h1:n<p.types.list.length
      · obtain⟨x,hx⟩:=q0b h1
        have hav:=q0j (e:=LType.cells) (show 0<p.types.list.length by omega)
        have hk:q9u p f=x.kind:=by simp[q9u,hn,Y2G h1,hx]
        have hnl:¬(p.types.list.length:Int)≤f.sig:=by omega
        have h01:¬f.sig<0:=by omega
        have ha:q2h f.sig p.types.list.length=true:=by simp[q2h];omega
        rw[ha,hn]at ea
        have e1':=e1
        dsimp only[LFunc.cells]at e1'
        rw[hn]at e1'
        cases hb16:q2h (f.blocks.list.length-1) 16 with
        | true=>
          rw[hb16]at eb
          simp[q2h]at hb16
          repeat' first|refine zA3f (zc @hg0 (zc @hg1 (zc @hn (zc (Y2G h1) (zc @hx (zc @hav @hw1)))))) q0G ea q0G eb z1d e1' ?_|refine zSf (zc @hg0 (zc @hg1 (zc @hn (zc (Y2G h1) (zc @hx (zc @hav @hw1)))))) (fun hb=> ?_) (fun hb=> ?_)|(refine Y2w hP rfl (fun hc=> ?_) (fun hc=> ?_)<;>simp at hc)
          all_goals clear e1 e1' ea eb hw1
          all_goals simp only[Y2h,Y3s]at*
          all_goals first|(refine⟨(),rfl,?_,hg0,hg1,hnx,?_⟩<;>first|(focus((repeat' first|exact q0h|refine q0e (by simp) ?_);done))|(focus(simp_all[q3o];omega)))|(focus(simp_all[q1b,q3o];done))
        | false=>
          rw[hb16]at eb
          simp[q2h]at hb16
          repeat' first|refine zA3f (zc @hg0 (zc @hg1 (zc @hn (zc (Y2G h1) (zc @hx (zc @hav @hw1)))))) q0G ea q0G eb z1d e1' ?_|refine zSf (zc @hg0 (zc @hg1 (zc @hn (zc (Y2G h1) (zc @hx (zc @hav @hw1)))))) (fun hb=> ?_) (fun hb=> ?_)|fail
          all_goals clear e1 e1' ea eb
          all_goals (rw[AV.bool.injEq,eq_comm,q1b,Bool.and_eq_false_iff];left;rw[Y3t];simp[q3o];omega)
      · have hnl:(p.types.list.length:Int)≤f.sig:=by omega
        have ha:q2h f.sig p.types.list.length=false:=by simp[q2h];omega
        rw[ha]at ea
        have h01:¬f.sig<0:=by omega
        refine zA1f (zc @hg0 @hg1) q0G ea ?_
        all_goals simp[q1b,q3o,hnl]
    · have h01:f.sig<0:=by omega
      have ha:q2h f.sig p.types.list.length=false:=by simp[q2h];omega
      rw[ha]at ea
      refine zA1f (zc @hg0 @hg1) q0G ea ?_
      all_goals simp[q1b,q3o,h01]
  rintro _ g ⟨hg0,hg1,hnx,hA⟩
  dsimp only[q4C,q0o]at hg0 hg1
  have hA':=hA
  simp only[q3o,Y2l,Y3s,Y3t,Y2h]at hA'
  obtain⟨a1,a2,a3,a4,a5,a6⟩:=hA'
  have hpos:=q1r f.blocks.list
  have hsp:0≤q0w p f∧q0w p f<900000:=by
    unfold q0w
    cases hx:p.types.list[f.sig.toNat]? with
    |none=>simp
    |some x=>have:=hp x (Y0N hx);simp;omega
  obtain⟨n,hn⟩:=Y3j (show 0≤f.sig by omega)
  have h1:n<p.types.list.length:=by omega
  obtain⟨x,hx⟩:=q0b h1
  have hav:=q0j (e:=LType.cells) (show 0<p.types.list.length by omega)
  have hr:q0w p f=x.parts.list.length:=by simp[q0w,hn,hx]
  have hreg:q2Y p f=x.parts.list.length+q1o f.blocks.list:=by rw[q2Y,hr]
  have hwm:=w64e (n:=q1o f.blocks.list) (by omega) (by omega)
  have hw:=w64e (n:=(x.parts.list.length:Int)+q1o f.blocks.list) (by omega) (by omega)
  have hav2:=q0j (e:=LBlock.cells) (show 0<f.blocks.list.length by omega)
  let z:LSizes:=⟨p.types.list.length,p.funcs.list.length,q2Y p f,f.blocks.list.length⟩
  refine Y3r (fun _:Unit=>[(3,.ptr 1 0),(5,.ptr 2 0)]) (fun _ g=>g.get 1=some (.cells q4C f.cells)∧g.get 2=some (.cells q3J z.cells)∧g.nx=3) ?_ ?_
  · have hfa:=x8u (e:=LFunc.cells) p.funcs
    have hpa:=x8u (e:=cI) x.parts
    rcases hfa with⟨hfa,hfl⟩|hfa<;>rcases hpa with⟨hpa,hpl⟩|hpa
    · refine zHf (zc @hg0 (zc @hg1 (zc @hn (zc (Y2G h1) (zc @hx (zc @hav (zc @hav2 (zc @hfa (zc @hpa (zc @hw (zc (show¬g.nx≤0 by omega) (zc (show¬g.nx≤1 by omega) (zc @q8z @q8A))))))))))))) (tl 57 [.agg f.cells] (.int .i64 (q1o f.blocks.list)) (e1) t0) (zw [0,1,3,0,8,24,0,64,0,256,960,1984,4032,8128,0,16384,65472,0,131072,393216,1048575,0,4194303]) ?_
      refine⟨(),rfl,?_,?_,?_,?_⟩
      ·exact zLf @hnx
      ·simp[hnx];exact hg1
      ·simp[hnx,z,hreg,hfl,hpl,hwm,hw]
      ·simp[hnx]
    · refine zHf (zc @hg0 (zc @hg1 (zc @hn (zc (Y2G h1) (zc @hx (zc @hav (zc @hav2 (zc @hfa (zc @hpa (zc @hw (zc (show¬g.nx≤0 by omega) (zc (show¬g.nx≤1 by omega) (zc @q8z @q8A))))))))))))) (tl 57 [.agg f.cells] (.int .i64 (q1o f.blocks.list)) (e1) t0) (zw [0,1,3,0,8,24,0,64,0,256,960,1984,4032,8128,0,16384,65472,0,131072,393216,1048575,0,4194303]) ?_
      refine⟨(),rfl,?_,?_,?_,?_⟩
      ·exact zLf @hnx
      ·simp[hnx];exact hg1
      ·simp[hnx,z,hreg,hfl,hw]
      ·simp[hnx]
    · refine zHf (zc @hg0 (zc @hg1 (zc @hn (zc (Y2G h1) (zc @hx (zc @hav (zc @hav2 (zc @hfa (zc @hpa (zc @hw (zc (show¬g.nx≤0 by omega) (zc (show¬g.nx≤1 by omega) (zc @q8z @q8A))))))))))))) (tl 57 [.agg f.cells] (.int .i64 (q1o f.blocks.list)) (e1) t0) (zw [0,1,3,0,8,24,0,64,0,256,960,1984,4032,8128,0,16384,65472,0,131072,393216,1048575,0,4194303]) ?_
      refine⟨(),rfl,?_,?_,?_,?_⟩
      ·exact zLf @hnx
      ·simp[hnx];exact hg1
      ·simp[hnx,z,hreg,hpl,hwm,hw]
      ·simp[hnx]
    · refine zHf (zc @hg0 (zc @hg1 (zc @hn (zc (Y2G h1) (zc @hx (zc @hav (zc @hav2 (zc @hfa (zc @hpa (zc @hw (zc (show¬g.nx≤0 by omega) (zc (show¬g.nx≤1 by omega) (zc @q8z @q8A))))))))))))) (tl 57 [.agg f.cells] (.int .i64 (q1o f.blocks.list)) (e1) t0) (zw [0,1,3,0,8,24,0,64,0,256,960,1984,4032,8128,0,16384,65472,0,131072,393216,1048575,0,4194303]) ?_
      refine⟨(),rfl,?_,?_,?_,?_⟩
      ·exact zLf @hnx
      ·simp[hnx];exact hg1
      ·simp[hnx,z,hreg,hw]
      ·simp[hnx]
  rintro _ g ⟨hg1,hg2,hnx⟩
  dsimp only[q4C,q3J]at hg1 hg2
  refine zGf (zc @hg1 @hg2) ?_
  rw[hnx]
  refine Y2U (fun h=>h.get 1=some (.cells q4C f.cells)∧h.get 2=some (.cells q3J z.cells)∧h.get 3=some (.cells x8y [.fn (.func q1K) [] [.ptr 2 0]])∧h.nx=4) ⟨by simp[hnx];exact hg1,by simp[hnx];exact hg2,by simp[hnx],by simp[hnx]⟩ fun h hh=> ?_
  obtain⟨k1,k2,k3,kn⟩:=hh
  dsimp only[q4C]at k1
  have hil:∀b∈f.blocks.list,b.ins.list.length<1000000:=fun b hb=>by
    obtain⟨i,hi⟩:=Y3B.1 hb
    have q1:=q6A hi
    have q2:=q8w f.blocks.list (i+1)
    have q3:=q1r (f.blocks.list.take i)
    omega
  have e2:=z3n hP f.blocks q3V [.ptr 3 0,.ptr 2 0] (fun b=> !(b.ins.list.all (fun x=>q2u z.types z.funcs x z.regs z.blocks)&&q4H b.ed z.regs z.blocks)) z4g h (by omega) (fun b hb h' hw'=>fn2_qt hV b z h' 2 3 (hw'.at k2 (by omega)) (by have:=hw'.nx;omega) x8y (hw'.at k3 (by omega)) (by have:=hw'.nx;omega) (hil b hb) (fun x hx=>⟨ho.op b hb x hx,hs.args b hb x hx,hs.frm b hb x hx⟩))
  refine zGf @k1 ?_
  refine Y2N hP q3Q e2 (by simp) rfl rfl rfl rfl fun k hk=> ?_
  refine Y2X hP (by simp<;>rfl) ?_
  try dsimp only[goK]
  refine zA0 ?_
  have hall:f.blocks.list.any (fun b=> !b.ins.list.all (fun x=>q2u z.types z.funcs x z.regs z.blocks)|| !q4H b.ed z.regs z.blocks)= !f.blocks.list.all (q3c p f):=by
    rw[Y3k]
    congr 1
    funext b
    simp[q3c,z]
  rw[hall,q1b,hA]
  simp
end Go.Ax
set_option maxRecDepth 20000
noncomputable section
namespace Go.Ax
open Go.Proofs
def szs(t:List LType)(k:Nat):List Int:=(List.range k).map (fun j=>((ofS t j).length:Int))
theorem x8a{t:List LType}{k j:Nat}(h:j<k):(szs t k).getD j 0=(ofS t j).length:=by
 simp[szs,Y3l,h]
theorem szs_len{t:List LType}{k:Nat}:(szs t k).length=k:=by simp[szs]
theorem szs_succ{t:List LType}{k:Nat}:szs t (k+1)=szs t k++[((ofS t k).length:Int)]:=by simp[szs,Y3C]
theorem x6r{t:List LType}{k:Nat}(h:q5C t k=true):q1T t k=true:=by
 simp only[q5C,Y1X]at h;exact h.1
theorem ofS_of{t:List LType}{k:Nat}{x:LType}(hx:t[k]? =some x):ofS t k=if x.kind=4 then x.parts.list.flatMap (fun p=>ofN t k p.toNat)else if x.kind=5 then(List.replicate x.many.toNat (ofN t k x.elem.toNat)).flatten else [(k:Int)]:=z9r hx
theorem ofN_S{t:List LType}{k j:Nat}(hall:∀j<k,q5C t j=true)(h:j<k):ofN t k j=ofS t j:=
 x0C (fun i hi=>x6r (hall i (by omega))) h (Y0B _)
theorem x0K{t:List LType}{k:Nat}(hall:∀j<k,q5C t j=true):∀(l:List Int),q2R l k=true→
    sumN (l.map fun n=>(szs t k).getD n.toNat 0)=((l.flatMap (fun p=>ofN t k p.toNat)).length:Int)
  |[],_=>rfl
  | a::l,h=>by
    simp only[q2R,List.all_cons,Y1X,Y2h]at h
    have h2:=x0K hall l h.2
    have ha:a.toNat<k:=by omega
    simp only[Y1f,sumN,Y3q,Y0X,Int.natCast_add]
    rw[h2,x8a ha,ofN_S hall ha]
theorem len_rep{α:Type}(n:Nat)(l:List α):(List.replicate n l).flatten.length=n*l.length:=by
 simp[List.length_flatten]
theorem x0T{t:List LType}{n:Int}:q6P t n=(decide (0≤n)&&decide (n<t.length)&&scAt t n):=by
 rw[Y1e]
 by_cases h:0≤n∧n<t.length
 ·obtain⟨x,hx⟩:=q0b (show n.toNat<t.length by omega)
  simp only[q6P,q7s,scAt,hx,z4C,Y1X,Y2g,Y2h]
  omega
 ·simp only[q6P,Y1X,Y2h]
  constructor
  ·rintro⟨h1,h2,h3⟩;exact absurd ⟨h1,h2⟩ h
  ·rintro⟨⟨h1,h2⟩,h3⟩;exact absurd ⟨h1,h2⟩ h
theorem mayFn3_eq{t:List LType}{x:LType}:z5k t x=(decide (x.many=0)&&(decide (x.parts.list.length≤4)&&(q2f t.length (x.elem::x.parts.list)&&(x.elem::x.parts.list).all (scAt t)))):=by
 have h1:x.parts.list.all (q6P t)=(q2f t.length x.parts.list&&x.parts.list.all (scAt t)):=by
  rw[Y1e]
  simp only[q2f,Y0G,x0T,Y1X]
  exact⟨fun h=>⟨fun y hy=>(h y hy).1,fun y hy=>(h y hy).2⟩,fun h y hy=>⟨h.1 y hy,h.2 y hy⟩⟩
 rw[Y1e]
 simp only[z5k,h1,x0T,q2f,List.all_cons,Y1X,Y2h]
 constructor
 ·rintro⟨⟨a1,a2⟩,⟨⟨b1,b2⟩,b3⟩,c1,c2⟩;exact⟨c2,by omega,⟨⟨b1,b2⟩,a1⟩,b3,a2⟩
 ·rintro⟨c2,c1,⟨⟨b1,b2⟩,a1⟩,b3,a2⟩;exact⟨⟨a1,a2⟩,⟨⟨b1,b2⟩,b3⟩,by omega,c2⟩
theorem mayS_eq{t:List LType}{k:Nat}{x:LType}(hx:t[k]? =some x)(hall:∀j<k,q5C t j=true):(mayS t k (szs t k)).2=q5C t k∧(q5C t k=true→(mayS t k (szs t k)).1=(ofS t k).length):=by
 have ho:=ofS_of hx
 by_cases h1:x.kind=1
 ·have hl:(ofS t k).length=1:=by rw[ho];simp[h1]
  simp[mayS,q5C,q1T,hx,h1,hl,q2Q]
 by_cases h2:x.kind=2
 ·have hl:(ofS t k).length=1:=by rw[ho];simp[h2]
  simp[mayS,q5C,q1T,hx,h2,hl,q2Q,q2f]
  rw[Y1e];simp
  constructor
  ·rintro⟨⟨a1,a2⟩,a3,a4⟩;exact⟨a3,a4,a1,a2⟩
  ·rintro⟨a3,a4,a1,a2⟩;exact⟨⟨a1,a2⟩,a3,a4⟩
 by_cases h3:x.kind=3
 ·have hl:(ofS t k).length=1:=by rw[ho];simp[h3]
  simp only[mayS,q5C,q1T,hx,h3,hl,q2Q,mayFn3_eq]
  simp
 by_cases h4:x.kind=4
 ·have ho':ofS t k=x.parts.list.flatMap (fun p=>ofN t k p.toNat):=by rw[ho,Y0e h4]
  by_cases hl:q2R x.parts.list k=true
  ·have hs:=x0K hall x.parts.list hl
   rw[←ho']at hs
   have ht:q2f k x.parts.list=true:=hl
   simp only[mayS,q5C,q1T,hx,h4,q2Q,hs,hl,ht]
   by_cases he:x.elem=0<;>by_cases hm:x.many=0<;>simp[he,hm]
   rw[Y1e];simp;omega
  ·have ht:q2f k x.parts.list=false:=Y3D.2 hl
   have hl':q2R x.parts.list k=false:=by simpa using hl
   simp[mayS,q5C,q1T,hx,h4,q2Q,hl',ht]
 by_cases h5:x.kind=5
 ·have ho':ofS t k=(List.replicate x.many.toNat (ofN t k x.elem.toNat)).flatten:=by rw[ho,Y0c h4,Y0e h5]
  by_cases hl:(0≤x.elem∧x.elem<k)∧1≤x.many∧x.many≤16
  ·have he:x.elem.toNat<k:=by omega
   have hlen:((ofS t k).length:Int)=x.many*(ofS t x.elem.toNat).length:=by
    rw[ho',len_rep,ofN_S hall he,Int.natCast_mul,Int.toNat_of_nonneg (by omega)]
   simp only[mayS,q5C,q1T,hx,h5,q2Q,x8a he,q2f]
   rw[←hlen]
   simp[hl.1.1,hl.1.2,hl.2.1,hl.2.2]
   by_cases hp:x.parts.list= []<;>simp[hp]
   omega
  ·have q:q5C t k=false:=by
    simp only[q5C,q1T,hx,h5]
    simp
    intros;omega
   rw[q]
   have c:(q2f k [x.elem]&&(decide (1≤x.many)&&decide (x.many≤16)))=false:=by
    rw[Y3D]
    intro h
    simp[q2f]at h
    exact hl ⟨h.1,h.2⟩
   simp only[mayS,hx,h5,c]
   simp
 ·simp[mayS,q5C,q1T,hx,h1,h2,h3,h4,h5]
theorem z5p{t:List LType}:∀(n k:Nat),k+n=t.length→(∀j<k,q5C t j=true)→((q7e t n (szs t k)).isSome=(List.range t.length).all (q5C t))
  | 0,k,hk,hall=>by
    simp only[q7e,Y0f]
    rw[eq_comm,Y0G]
    intro j hj
    exact hall j (by have:=Y2o.1 hj;omega)
  | n +1,k,hk,hall=>by
    obtain⟨x,hx⟩:=q0b (show k<t.length by omega)
    obtain⟨e1,e2⟩:=mayS_eq hx hall
    simp only[q7e,szs_len,e1]
    cases hm:q5C t k with
    | true=>
      rw[Y0e rfl,e2 hm,←szs_succ]
      refine z5p n (k+1) (by omega) fun j hj=> ?_
      by_cases h:j=k
      ·rw[h];exact hm
      ·exact hall j (by omega)
    | false=>
      rw[Y0c (by simp)]
      simp only[Option.isSome_none]
      rw[eq_comm,Y3E]
      exact⟨k,Y2o.2 (by omega),by simp[hm]⟩
theorem x8Q(t:List LType):z6r t=q8s t:=by
 unfold z6r q8s
 by_cases h:16<t.length
 ·rw[Y0e h,Y0e h]
 ·rw[Y0c h,Y0c h]
  have h2:=z5p (t:=t) t.length 0 (by omega) (fun j hj=>absurd hj (Y2K _))
  have h3:szs t 0= []:=rfl
  rw[h3]at h2
  cases hg:q7e t t.length []with
  |none=>rw[hg]at h2;rw[Y0c (by rw[←h2];simp)]
  |some v=>rw[hg]at h2;rw[Y0e (by rw[←h2];rfl)]
end Go.Ax
set_option maxRecDepth 20000
noncomputable section
namespace Go.Ax
open Go.Proofs
attribute [local irreducible] TW TO CallsT PureC
variable{F:Nat→Option Obj}{gl:Nat→AV}{K:Knob}{S S':Nat→Prop}
theorem chk1_qt(hV:Env F gl K)(p:LProg)(f:LFunc)(hs:SmallF f)(ho:OpsOk f)(hp:∀x∈p.types.list,x.parts.list.length<900000)(h:Hp)(r:Nat)(hr:h.get r=some (.cells q0o p.cells))(hrn:r<h.nx):
  Qt Tryz.prog F h (.bool (!q1b p f)) q5V [.agg f.cells,.ptr r 0]:=by
 have hP:=hV.P
 refine Y2y hP q0f z7P rfl rfl ?_
 have e1:=z9W hV p f hs ho hp
 dsimp only[q0o]at hr
 refine zG ?_
 refine Y2U (fun g=>g.get h.nx=some (.cells q4C f.cells)∧g.get r=some (.cells q0o p.cells)∧Wid h g) ⟨by simp,by rw[get_new,Y0c (by omega)];exact hr,(Y2M h).new _⟩ fun g hg=> ?_
 obtain⟨g1,g2,hw⟩:=hg
 dsimp only[q4C,q0o]at g1 g2
 refine zR1f (zc @g1 @g2) z5Q e1 ?_
 refine Y2u ⟨.inr rfl,g,_,rfl,rfl,?_,hw⟩
 simp[q0q]
structure OpsP(p:LProg):Prop where
 op:∀f∈p.funcs.list,OpsOk f
theorem z0b(hV:Env F gl K)(p:LProg)(hs:SmallP p)(ho:OpsP p):PureC Tryz.prog F q9S [.agg p.cells] (.int .i64 (q2I p)):=by
  have hP:=hV.P
  have hnf:=hs.nf
  have hnt:=hs.nt
  have e1:=z5J hP p.types hs.parts (by omega)
  rw[x8Q]at e1
  have eb:=q2b hP (p.funcs.list.length-1) 8
  have hw1:=w64e (n:=(p.funcs.list.length:Int)-1) (by omega) (by omega)
  refine zP x0s ?_
  refine zG ?_
  by_cases hc3:q8s p.types.list=0
  · rw [hc3]at e1
    refine Y2U (fun g=>g.get 0=some (.cells q0o p.cells)∧g.nx=1) ⟨by simp,by simp⟩ fun g hgg=> ?_
    obtain⟨hg0,hnx⟩:=hgg
    have hg:=hg0
    dsimp only[q0o]at hg0
    cases hb:q2h (p.funcs.list.length-1) 8 with
    | false=>
      rw[hb]at eb
      refine zA2f (zc @hg0 @hw1) q9T e1 q0G eb ?_
      all_goals (simp[q2h]at hb;simp[q2I,hc3];try omega)
    | true=>
      rw[hb]at eb
      have e2:=z4A hP p.funcs q5V [.ptr 0 0] (fun f=> !q1b p f) z7L g (by omega) (fun f hf h' hw'=>chk1_qt hV p f (hs.funcs f hf) (ho.op f hf) hs.parts h' 0 (hw'.at hg (by omega)) (by have:=hw'.nx;omega))
      have hall:p.funcs.list.any (fun f=> !q1b p f)= !p.funcs.list.all (q1b p):=by rw[Y3k]
      rw[hall]at e2
      refine zR2f (zc @hg0 @hw1) q9T e1 q0G eb ?_
      simp[q2h]at hb
      cases ha:p.funcs.list.all (q1b p)with
      | true=>
        rw[ha]at e2
        refine Y2N hP q2a e2 (by simp) rfl rfl rfl rfl fun k hk=> ?_
        refine Y2X hP (by simp<;>rfl) ?_
        try dsimp only[goK]
        refine zA0 ?_
        simp only[q2I,hc3,ha]
        simp
        omega
      | false=>
        rw[ha]at e2
        refine Y2N hP q2a e2 (by simp) rfl rfl rfl rfl fun k hk=> ?_
        refine Y2X hP (by simp<;>rfl) ?_
        try dsimp only[goK]
        refine zA0 ?_
        simp only[q2I,hc3,ha];simp
  · refine zA1f @hc3 q9T e1 ?_
    all_goals simp[q2I,hc3]
def sigAt(p:LProg)(f:Int):Int:=match p.funcs.list[f.toNat]? with|some x=>q0w p x|none=>0
def z8w(p:LProg)(f:Int):Int:=if q7S p f=0 then sigAt p f else 0
theorem z5M(hV:Env F gl K)(p:LProg)(f:Int)(hs:SmallP p)(ho:OpsP p):PureC Tryz.prog F q9R [.agg p.cells,.int .i64 f] (.tup [.int .i64 (z8w p f),.int .i64 (q7S p f)]):=by
  have hP:=hV.P
  have hX:=hV.X
  have e1:=z0b hV p hs ho
  have eb:=q2b hP f p.funcs.list.length
  refine zP2 x0q ?_
  by_cases hc:q2I p=0
  · rw[hc]at e1
    cases hb:q2h f p.funcs.list.length with
    | false=>
      rw[hb]at eb
      refine zA2 q5Q e1 q0G eb ?_
      have hb2:f<0∨(p.funcs.list.length:Int)≤f:=by simp[q2h]at hb;omega
      have ha:q7S p f=2:=by rw[q7S,Y0e ⟨hc,hb2⟩]
      rw[z8w,ha];rfl
    | true=>
      rw[hb]at eb
      have hb2:0≤f∧f<(p.funcs.list.length:Int):=by simp[q2h]at hb;omega
      have ha:q7S p f=0:=by rw[q7S,Y0c (by omega),hc]
      obtain⟨n,rfl⟩:=Y3j hb2.1
      have hn:n<p.funcs.list.length:=by omega
      obtain⟨x,hx⟩:=q0b hn
      obtain⟨c1,c2,c3,c4⟩:=q3k hc
      obtain⟨a1,a2,a3,a4,a5,a6⟩:=q1X (c2 x (Y0N hx))
      obtain⟨m,hm⟩:=Y3j a1
      have hml:m<p.types.list.length:=by omega
      obtain⟨y,hy⟩:=q0b hml
      have hav:=q0j (e:=LType.cells) (show 0<p.types.list.length by omega)
      have hav2:=q0j (e:=LFunc.cells) (show 0<p.funcs.list.length by omega)
      refine zG ?_
      refine Y2U (fun g=>g.get 0=some (.cells q0o p.cells)) (by simp) fun g hg0=> ?_
      dsimp only[q0o]at hg0
      refine zR2f @hg0 q5Q e1 q0G eb ?_
      refine zEf (zc @hg0 (zc @hx (zc @hy (zc @hm (zc @hav (zc @hav2 (zc (Y2G hn) (Y2G hml)))))))) t0 ?_
      refine zA0 ?_
      rw[z8w,ha]
      simp[sigAt,hx,q0w,hm,hy]
  · refine zA1f @hc q5Q e1 ?_
    have ha:q7S p f=q2I p:=by rw[q7S,Y0c (by omega)]
    rw[z8w,ha,Y0c hc]
def x7K(p:LProg)(f:Int):Int:=if q7S p f=0 then(match p.funcs.list[f.toNat]? with|some x=>q2Y p x|none=>0)else 0
theorem z7C(hV:Env F gl K)(p:LProg)(f:Int)(hs:SmallP p)(ho:OpsP p):PureC Tryz.prog F z0Z [.agg p.cells,.int .i64 f] (.tup [.int .i64 (x7K p f),.int .i64 (q7S p f)]):=by
 have hP:=hV.P
 have e1:=z5M hV p f hs ho
 refine zP2 x2z ?_
 by_cases hc:q7S p f=0
 ·obtain⟨c1,c2,c3⟩:=asked6_ok hc
  obtain⟨n,rfl⟩:=Y3j c2
  have hn:n<p.funcs.list.length:=by omega
  obtain⟨x,hx⟩:=q0b hn
  have hxm:=Y0N hx
  have e2:=x1c hP x (hs.funcs x hxm)
  have hav2:=q0j (e:=LFunc.cells) (show 0<p.funcs.list.length by omega)
  have hr:=x3t ((q3k c1).2.1 x hxm) hs.parts
  unfold q2Y at hr
  have hN:z8w p n=q0w p x:=by rw[z8w,Y0e hc];simp[sigAt,hx]
  rw[hc,hN]at e1
  have hw:=w64e (n:=q0w p x+q1o x.blocks.list) (by omega) (by omega)
  refine zG ?_
  refine Y2U (fun g=>g.get 0=some (.cells q0o p.cells)) (by simp) fun g hg0=> ?_
  dsimp only[q0o]at hg0
  repeat refine Y2v ?_
  refine Y2W hP (by simp[hg0]<;>rfl) ?_
  dsimp only[goK]
  refine Y2O hP z3Z (e1) (by simp) rfl rfl rfl rfl ?_
  refine Y2X hP (by simp<;>rfl) ?_
  dsimp only[goK,q0a]
  refine zA1f (zc @hg0 (zc @hx (zc @hav2 (zc (Y2G hn) @hw)))) z1d e2 ?_
  rw[hc]
  simp[x7K,hc,hx,q2Y]
 ·refine zA1f @hc z3Z e1 ?_
  simp[x7K,hc]
end Go.Ax
noncomputable section
namespace Go.Ax
section
variable{P:Program}{F:Nat→Option Obj}{gl:Nat→AV}{K:Knob}
inductive Ren(σ:Nat→Nat)(U:Nat→Prop):AV→AV→Prop
 |bare {v:AV} (h:q3Z v=true):Ren σ U v v
 |sl {r o len cap es:Nat} {x x':Bool} (h:U r) (hx:x=true→x'=true):Ren σ U (.sl r o len cap es x) (.sl (σ r) o len cap es x')
 |ptr {r o:Nat} (h:U r):Ren σ U (.ptr r o) (.ptr (σ r) o)
 |nil0:Ren σ U (.isl []) .nilsl
 |sl0 {r o cap es:Nat} {x:Bool}:Ren σ U (.isl []) (.sl r o 0 cap es x)
 |agg {l1 l2:List AV} (hl:l1.length=l2.length) (h:∀(i:Nat) (x y:AV),l1[i]? =some x→l2[i]? =some y→Ren σ U x y):Ren σ U (.agg l1) (.agg l2)
 |tup {l1 l2:List AV} (hl:l1.length=l2.length) (h:∀(i:Nat) (x y:AV),l1[i]? =some x→l2[i]? =some y→Ren σ U x y):Ren σ U (.tup l1) (.tup l2)
structure RenL(σ:Nat→Nat)(U:Nat→Prop)(l1 l2:List AV):Prop where
 len:l1.length=l2.length
 at':∀(i:Nat) (x y:AV),l1[i]? =some x→l2[i]? =some y→Ren σ U x y
theorem RenL.nil{σ:Nat→Nat}{U:Nat→Prop}:RenL σ U [] []:=⟨rfl,fun i x y h=>by simp at h⟩
theorem RenL.bare{σ:Nat→Nat}{U:Nat→Prop}{l:List AV}(h:q2g l=true):RenL σ U l l:=⟨rfl,fun i x y hx hy=>by rw[hx]at hy;cases hy;exact .bare (q5M h hx)⟩
theorem VRel.ren{m1 m2:Loc}{σ:Nat→Nat}{U:Nat→Prop}(hU:∀r,U r→m1 r=m2 (σ r))(hf:m1.fz=m2.fz){x y:AV}(H:Ren σ U x y):∀{cv:Value},VRel P F m2 y cv→VRel P F m1 x cv:=by
  induction H with
  | bare h=>
    intro cv hv
    exact VRel.mono (m:=⟨fun _=>none,m1.fz⟩) (m':=m1) ⟨fun r c e=>(by cases e),fun _ _ e=>e⟩ (hv.unref (fz:=m1.fz) (fun b o e=>by rw[hf];exact e) h)
  | sl h hx0=>
    intro cv hv
    cases hv with
    |sl hm hl hc hx hz=>exact .sl ((hU _ h).trans hm) hl hc (fun e=>hx (hx0 e)) hz
  | ptr h=>
    intro cv hv
    cases hv with
    |ptr hm=>exact .ptr ((hU _ h).trans hm)
  | nil0=>
    intro cv hv
    cases hv
    exact .isl0 none 0
  | sl0=>
    intro cv hv
    cases hv with
    |sl hm hl hc hx hz=>exact .isl0 _ _
  | @agg l1 l2 hl _ ih=>
    intro cv hv
    cases hv with
    | agg hl2 hc=>
      refine .agg (hl.trans hl2) fun i x y hx hy=> ?_
      obtain⟨b,hb⟩:∃b,l2[i]? =some b:=⟨l2[i]'(by rw[←hl];exact(Y0m.1 hx).1),Y0n _⟩
      exact ih i x b hx hb (hc i b y hb hy)
  | @tup l1 l2 hl _ ih=>
    intro cv hv
    cases hv with
    | tup hl2 hc=>
      refine .tup (hl.trans hl2) fun i x y hx hy=> ?_
      obtain⟨b,hb⟩:∃b,l2[i]? =some b:=⟨l2[i]'(by rw[←hl];exact(Y0m.1 hx).1),Y0n _⟩
      exact ih i x b hx hb (hc i b y hb hy)
def Hp.e:Hp:={nx:=0,m:=.e,lo:=0}
theorem e_get(r:Nat):Hp.e.get r=none:=Y0a ..
structure Iso(h:Hp)(v1:AV)(h1:Hp)(v2:AV)(h2:Hp)(σ:Nat→Nat)(U:Nat→Prop):Prop where
 val:Ren σ U v1 v2
 dom:∀r,U r→h.nx≤r∧r<h1.nx
 inj:∀r s,U r→U s→σ r=σ s→r=s
 obj:∀r,U r→∃e cs1 cs2,h1.get r=some (.cells e cs1)∧h2.get (σ r)=some (.cells e cs2)∧RenL σ U cs1 cs2
theorem Calling.of_iso{h h1:Hp}{v1:AV}{f:FuncId}{args:List AV}{O:AV→Hp→Prop}(hc:CallsT P F Hp.e O f args)(hb:q2g args=true)(hw:Wid h h1)(hwf:∀r,h1.nx≤r→h1.get r=none)
    (hI:∀v2 h2,O v2 h2→∃σ U,Iso h v1 h1 v2 h2 σ U):Calling P F h h1 v1 f args:=by
  intro m w n cargs hR hA hF
  have hR0:HRel P F ⟨fun _=>none,m.fz⟩ Hp.e w:=⟨fun r o b z hg hm=>(by cases hm),fun r s o q b y z hg hl hg' hl' hm hm'=>(by cases hm),fun r o b z hg hl hm=>(by cases hm),hR.frz,fun r _=>e_get r⟩
  refine(hc ⟨fun _=>none,m.fz⟩ w n cargs hR0 (hA.unref (fun b o e=>e) hb) (fun r _=>rfl)).mono fun e w' he=> ?_
  obtain⟨v2,h2,hO,hle,cv,m2,rfl,hs,hv⟩:=he
  obtain⟨σ,U,I⟩:=hI v2 h2 hO
  have none0:∀r o,Hp.e.get r=some o→False:=fun r o hg=>by rw[e_get]at hg;cases hg
  let m1:Loc:=⟨fun r=> @ite _ (h.nx≤r∧r<h1.nx) (Classical.propDecidable _) (@ite _ (U r) (Classical.propDecidable _) (m2 (σ r)) none) (m r),m2.fz⟩
  have inU:∀r,U r→m1 r=m2 (σ r):=fun r hr=>by
    show @ite _ _ (Classical.propDecidable _) (@ite _ _ (Classical.propDecidable _) _ _) _=_
    rw[Y0e (I.dom r hr),Y0e hr]
  have inR:∀r c,m1 r=some c→h.nx≤r→r<h1.nx→U r∧m2 (σ r)=some c:=fun r c hm h1' h2'=>by
    have hm: @ite _ _ (Classical.propDecidable _) (@ite _ _ (Classical.propDecidable _) _ _) _=some c:=hm
    rw[Y0e ⟨h1',h2'⟩]at hm
    split at hm
    ·rename_i hu;exact⟨hu,hm⟩
    ·cases hm
  have out:∀r,¬(h.nx≤r∧r<h1.nx)→m1 r=m r:=fun r hr=>by
    show @ite _ _ (Classical.propDecidable _) (@ite _ _ (Classical.propDecidable _) _ _) _=_
    rw[Y0c hr]
  have live2:∀r c,U r→m2 (σ r)=some c→∃e cs,h2.get (σ r)=some (.cells e cs):=fun r c hr _=>by
    obtain⟨e,cs1,cs2,_,g2,_⟩:=I.obj r hr;exact⟨e,cs2,g2⟩
  have new2:∀r b z,U r→m2 (σ r)=some (b,z)→w.heap.size≤b:=fun r b z hr hm=>by
    obtain⟨e,cs,g⟩:=live2 r _ hr hm
    rcases hs.mnew (σ r) b z hm rfl ⟨_,g,rfl⟩with h'|⟨s,o,y,hg,_,_⟩
    ·exact h'
    ·exact(none0 _ _ hg).elim
  have part:∀r o b z,h1.get r=some o→m1 r=some (b,z)→(U r∧m2 (σ r)=some (b,z))∨(r<h.nx∧h.get r=some o∧m r=some (b,z)):=fun r o b z hg hm=>by
    by_cases hlt:r<h.nx
    · right
      rw[out r (by omega)]at hm
      rw[hw.get r hlt]at hg
      exact⟨hlt,hg,hm⟩
    · left
      by_cases hlt2:r<h1.nx
      ·exact inR r _ hm (by omega) hlt2
      ·rw[hwf r (by omega)]at hg;cases hg
  have hlm:Loc.le m m1:=⟨fun r c hm=>by
    by_cases hr:h.nx≤r∧r<h1.nx
    ·have:=hF r hr.1 hr.2;rw[this]at hm;cases hm
    ·rw[out r hr];exact hm,hs.le.frz⟩
  have same:∀b,b<w.heap.size→w'.heap[b]? =w.heap[b]? :=fun b hb=>hs.old b hb fun r o z hg=>(none0 _ _ hg).elim
  have tr:∀{x y:AV} {cv:Value},Ren σ U x y→VRel P F m2 y cv→VRel P F m1 x cv:=fun H hv=>VRel.ren inU rfl H hv
  refine⟨cv,m1,rfl,⟨hlm,fun r c h1' h2'=> ?_,⟨fun r o b z hg hm=> ?_,fun r s o q b y z hg hl hg' hl' hm hm'=> ?_,fun r o b z hg hl hm=> ?_,fun b o hb=> ?_,hwf⟩,hs.same,hs.size,fun b hb _=>same b hb,hw.nx,fun r o' c hg hl hm=> ?_,fun r b z h1' h2' hlv=> ?_,fun b o hb=> ?_⟩,tr I.val hv⟩
  · by_cases hr:h.nx≤r∧r<h1.nx
    ·exact hr
    ·rw[out r hr,h2']at h1';cases h1'
  · rcases part r o b z hg hm with⟨hu,hm2⟩|⟨hlt,hg0,hm0⟩
    · obtain⟨e,cs1,cs2,g1,g2,g3⟩:=I.obj r hu
      rw[g1]at hg;cases hg
      obtain⟨arr,a1,a2,a3,a4⟩:=hs.rel.obj (σ r) _ b z g2 hm2
      refine⟨arr,a1,a2,by rw[g3.len];exact a3,fun i x y hx hy=> ?_⟩
      obtain⟨u,hu'⟩:∃u,cs2[i]? =some u:=⟨cs2[i]'(by rw[←g3.len];exact(Y0m.1 hx).1),Y0n _⟩
      exact tr (g3.at' i x u hx hu') (a4 i u y hu' hy)
    · by_cases hl:o.live=true
      · have:=hR.obj r o b z hg0 hm0
        rw[same b (hR.lt hg0 hl hm0)]
        exact this.mono hlm
      ·cases o<;>first|trivial|exact absurd rfl hl
  · rcases part r o b y hg hm with⟨hu,hm2⟩|⟨hlt,hg0,hm0⟩<;>rcases part s q b z hg' hm' with⟨hu',hm2'⟩|⟨hlt',hg0',hm0'⟩
    · obtain⟨e,cs,g⟩:=live2 r _ hu hm2
      obtain⟨e',cs',g'⟩:=live2 s _ hu' hm2'
      exact I.inj r s hu hu' (hs.rel.inj _ _ _ _ b y z g rfl g' rfl hm2 hm2')
    · have:=new2 r b y hu hm2
      have:=hR.lt hg0' hl' hm0'
      omega
    · have:=new2 s b z hu' hm2'
      have:=hR.lt hg0 hl hm0
      omega
    ·exact hR.inj r s o q b y z hg0 hl hg0' hl' hm0 hm0'
  · rcases part r o b z hg hm with⟨hu,hm2⟩|⟨hlt,hg0,hm0⟩
    · obtain⟨e,cs,g⟩:=live2 r _ hu hm2
      exact hs.rel.out _ _ b z g rfl hm2
    · obtain⟨q1,q2⟩:=hR.out r o b z hg0 hl hm0
      refine⟨q1,?_⟩
      show m2.fz b=none
      cases hf:m2.fz b with
      |none=>rfl
      | some x=>
        rcases hs.fnew b x hf with h3|h3|⟨s,q,y,hgs,_⟩
        · have h3:m.fz b=some x:=h3
          rw[q2]at h3;cases h3
        ·have:=hR.lt hg0 hl hm0;omega
        ·exact(none0 _ _ hgs).elim
  ·exact hs.rel.frz b o hb
  · by_cases hlt:r<h.nx
    ·rw[hw.get r hlt]at hg;exact⟨o',hg,hl⟩
    · by_cases hlt2:r<h1.nx
      ·rw[hF r (by omega) hlt2]at hm;cases hm
      ·rw[hwf r (by omega)]at hg;cases hg
  · obtain⟨o,hg,hl⟩:=hlv
    rcases part r o b z hg h1' with⟨hu,hm2⟩|⟨hlt,hg0,hm0⟩
    ·exact .inl (new2 r b z hu hm2)
    ·rw[h2']at hm0;cases hm0
  · rcases hs.fnew b o hb with h3|h3|⟨s,q,y,hgs,_⟩
    ·exact .inl h3
    ·exact .inr (.inl h3)
    ·exact(none0 _ _ hgs).elim
def Knob.tellP(K:Knob)(f:FuncId)(args:List AV)(h:Hp)(v:AV)(h1:Hp):Knob:=
 {K with orc:=fun g a=>open Classical in if g=f∧a=args then none else K.orc g a,prim:=fun g a k=>open Classical in if g=f∧a=args∧k=h then some (v,h1)else K.prim g a k}
theorem z8z{f:FuncId}{args:List AV}{h h1:Hp}{v:AV}:(K.tellP f args h v h1).prim f args h=some (v,h1):=by
 show(open Classical in if f=f∧args=args∧h=h then some (v,h1)else K.prim f args h)=_
 rw[Y0e ⟨rfl,rfl,rfl⟩]
theorem x0I{f:FuncId}{args:List AV}{h h1:Hp}{v:AV}:(K.tellP f args h v h1).orc f args=none:=by
 show(open Classical in if f=f∧args=args then none else K.orc f args)=_
 rw[Y0e ⟨rfl,rfl⟩]
theorem pok_tellP(hP:POk P F gl K){f:FuncId}{args:List AV}{h h1:Hp}{v:AV}(hle:HpLe h h1)(hc:Calling P F h h1 v f args):POk P F gl (K.tellP f args h v h1):=by
 refine⟨⟨hP.eq.held,hP.eq.guard,hP.eq.names⟩,hP.glob,hP.names,hP.mixed,fun g a u e=> ?_,hP.ext,fun g a k u k' e=> ?_⟩
 ·by_cases q:g=f∧a=args
  ·obtain⟨rfl,rfl⟩:=q
   rw[x0I]at e;cases e
  ·have e2:(K.tellP f args h v h1).orc g a=K.orc g a:=Y0c q
   rw[e2]at e;exact hP.orc g a u e
 ·by_cases q:g=f∧a=args∧k=h
  ·obtain⟨rfl,rfl,rfl⟩:=q
   rw[z8z]at e;cases e
   exact⟨hle,hc⟩
  ·have e2:(K.tellP f args h v h1).prim g a k=K.prim g a k:=Y0c q
   rw[e2]at e;exact hP.prim g a k u k' e
end
end Go.Ax
noncomputable section
namespace Go.Ax
open Go.Proofs
variable{es:Nat}{X:Type}
structure Twain(h1:Hp)(S1:Nat→Prop)(h2:Hp)(S2:Nat→Prop)(σ:Nat→Nat)(U:Nat→Prop):Prop where
 sub:∀r,U r→S1 r
 img:∀r,U r→S2 (σ r)
 inj:∀r s,U r→U s→σ r=σ s→r=s
 obj:∀r,U r→∃e cs1 cs2,h1.get r=some (.cells e cs1)∧h2.get (σ r)=some (.cells e cs2)∧RenL σ U cs1 cs2
def RigV(A B:AV→Asr):Prop:=∀v1 h1 S1 v2 h2 S2,A v1 h1 S1→B v2 h2 S2→∃σ U,Twain h1 S1 h2 S2 σ U∧Ren σ U v1 v2
def ExV(A:AV→Asr):Prop:=∀h:Hp,(∀r,h.nx≤r→h.get r=none)→∃v h' S,A v h' S∧Wid h h'∧(∀r,h'.nx≤r→h'.get r=none)∧∀s,S s→h.nx≤s∧s<h'.nx
theorem wf_new{h:Hp}{o:AObj}(hw:∀r,h.nx≤r→h.get r=none):∀r,(h.new o).nx≤r→(h.new o).get r=none:=fun r hr=>by
 rw[nx_new]at hr
 rw[get_new,Y0c (by omega)]
 exact hw r (by omega)
abbrev AnyF:Bool→Prop:=fun _=>True
abbrev OffF:Bool→Prop:=fun x=>x=false
def Emp(fl:Bool→Prop)(v:AV):Prop:=v= .isl []∨(fl true∧(v= .nilsl∨∃r o cap es x,v= .sl r o 0 cap es x))
theorem Emp.off{v:AV}(H:Emp OffF v):v= .isl []:=by
 rcases H with h|⟨h,_⟩
 ·exact h
 ·cases h
theorem Emp.ren{σ:Nat→Nat}{U:Nat→Prop}{v w:AV}(H:Emp OffF v)(K:Emp AnyF w):Ren σ U v w:=by
 rw[H.off]
 rcases K with rfl|⟨_,rfl|⟨r,o,cap,es,x,rfl⟩⟩
 ·exact .bare rfl
 ·exact .nil0
 ·exact .sl0
variable{fl:Bool→Prop}
theorem Twain.nil{h1 h2:Hp}{S1 S2:Nat→Prop}:Twain h1 S1 h2 S2 id fun _=>False:=⟨fun _ h=>h.elim,fun _ h=>h.elim,fun _ _ h=>h.elim,fun _ h=>h.elim⟩
def IntO(fl:Bool→Prop)(v:AV)(l:List Int)(h:Hp)(S:Nat→Prop):Prop:=(l= []∧Emp fl v)∨∃(r:Nat) (x:Bool),fl x∧l≠ []∧v= .sl r 0 l.length l.length 1 x∧S r∧h.get r=some (.cells q0x (l.map (.int .i64)))
theorem IntO.locl{v:AV}{s:List Int}:Locl (IntO fl v s):=fun h g S S' H hS hg=>by
 rcases H with H|⟨r,x,h0,h1,h2,h3,h4⟩
 ·exact .inl H
 ·exact .inr ⟨r,x,h0,h1,h2,hS r h3,(hg r h3).trans h4⟩
theorem x3x(l:List Int):q2g (l.map (.int .i64))=true:=by
 induction l with
 |nil=>rfl
 |cons a l ih=>show(q3Z (.int .i64 a)&&q2g (l.map (.int .i64)))=true;rw[ih];rfl
theorem IntO.rig(s:List Int):RigV (fun v=>IntO OffF v s) (fun v=>IntO AnyF v s):=by
 intro v1 h1 S1 v2 h2 S2 H1 H2
 rcases H1 with⟨rfl,H1⟩|⟨r,x,h0,hn,rfl,a3,a4⟩<;>rcases H2 with⟨e2,H2⟩|⟨r',x',h0',hn',rfl,b3,b4⟩
 ·exact⟨_,_,.nil,H1.ren H2⟩
 ·exact absurd rfl hn'
 ·exact absurd e2 hn
 ·have h0:x=false:=h0
  subst h0
  refine⟨fun _=>r',fun s=>s=r,⟨fun s hs=>by rw[hs];exact a3,fun _ _=>b3,fun a b ha hb _=>by rw[ha,hb],fun s hs=>⟨q0x,_,_,by rw[hs];exact a4,b4,.bare (x3x _)⟩⟩,?_⟩
  exact .sl (σ:=fun _=>r') (r:=r) rfl nofun
theorem IntO.ex(s:List Int):ExV (fun v=>IntO OffF v s):=by
 intro h hw
 by_cases hn:s= []
 ·exact⟨.isl [],h,fun _=>False,.inl ⟨hn,.inl rfl⟩,.refl h,hw,fun _ h=>h.elim⟩
 ·exact⟨_,h.new (.cells q0x (s.map (.int .i64))),fun s=>s=h.nx,.inr ⟨h.nx,false,rfl,hn,rfl,rfl,by rw[get_new,Y0e rfl]⟩,(Y2M h).new _,wf_new hw,fun s hs=>by rw[hs,nx_new];omega⟩
def Hp.at(h:Hp)(k:Nat):Hp:={nx:=h.nx+1,m:=h.m,lo:=k}
theorem x4P{P:Program}{F:Nat→Option Obj}{A B:AV→Asr}{f:FuncId}{args:List AV}(hc:CallsT P F Hp.e (fun v g=>∃S,B v g S) f args)(hb:q2g args=true)(hr:RigV A B)(hx:ExV A)(hl:∀v,Locl (A v))(h:Hp)(hlo:h.lo=h.nx)(hw:∀r,h.nx≤r→h.get r=none):
  ∃v h1 S,A v h1 S∧Wid h h1∧(∀r,h1.nx≤r→h1.get r=none)∧(∀s,S s→h.nx≤s∧s<h1.nx)∧HpLe h h1∧Calling P F h h1 v f args∧h1.lo=h.nx∧h.nx<h1.nx:=by
 obtain⟨v,h1,S,q1,q2,q3,q4⟩:=hx h hw
 have hw1:Wid h (h1.at h.nx):=⟨Nat.le_succ_of_le q2.nx,fun r hr=>q2.get r hr⟩
 have hwf:∀r,(h1.at h.nx).nx≤r→(h1.at h.nx).get r=none:=fun r hr=>q3 r (Nat.le_of_succ_le hr)
 refine⟨v,h1.at h.nx,S,hl v _ _ _ _ q1 (fun _ h=>h) (fun _ _=>rfl),hw1,hwf,fun s hs=>⟨(q4 s hs).1,Nat.lt_succ_of_lt (q4 s hs).2⟩,⟨hw1.nx,Nat.le_of_eq hlo.symm,fun r h1 _=>hw1.get r h1,fun _=>hwf⟩,.of_iso hc hb hw1 hwf fun v2 h2 ⟨S2,hB⟩=> ?_,rfl,Nat.lt_succ_of_le q2.nx⟩
 obtain⟨σ,U,T,hR⟩:=hr v h1 S v2 h2 S2 q1 hB
 exact⟨σ,U,hR,fun r hr=>⟨(q4 r (T.sub r hr)).1,Nat.lt_succ_of_lt (q4 r (T.sub r hr)).2⟩,T.inj,T.obj⟩
end Go.Ax
noncomputable section
namespace Go.Ax
variable{P:Program}{F:Nat→Option Obj}{gl:Nat→AV}{K:Knob}{n:Nat}{rd:Option Nat}{l:Kn}{h:Hp}{ds:List ADef}{Q:PQ}{all rest:List Oper}{m:Loc}
theorem VRel.isl0_inv{cv:Value}(h:VRel P F m (.isl []) cv):∃ad cap,cv= .slice ad 0 cap:=by
 cases h with
 |isl0 a cap=>exact⟨a,cap,rfl⟩
 |isl es f hF hl hes hf hc=>exact⟨_,_,rfl⟩
theorem OpT.isNil(hP:POk P F gl K){t u ty:TypeId}{x y:Operand}{dd:Option Nat}{pos:String}{aft:Array Edge}{gd:Option (Nat×Bool)}{ti:TI}{e:TypeId}(hx:evK (Ctx.of P gl K) l x=some (.isl []))(hy:evK (Ctx.of P gl K) l y=some .nilsl)(ht:(Ctx.of P gl K).ti t=some ti)(hd:ti.desc= .slice e):
  OpT P F ⟨dd,.binOp .eql t x y u,ty,pos,aft,gd⟩ n rd l h ds (fun v g=>g=h∧∃b,v= .bool b):=by
 refine⟨nofun,fun s hs m a w hr htm hF=> ?_⟩
 have h1:=q0F hP htm x
 rw[hs.ev hx]at h1
 have h2:=q0F hP htm y
 rw[hs.ev hy]at h2
 obtain⟨ad,cap,h3⟩:=h1.isl0_inv
 have h4:=h2.nilsl_inv
 have hu:=q0A ht
 rw[hd]at hu
 refine .inl ⟨.bool ad.isNone,h,⟨rfl,_,rfl⟩,.refl h,.inl (.pureV hr ⟨.bool ad.isNone,?_,.bool _⟩)⟩
 show(do eqGuard .eql t x y (a.eval x) (a.eval y);binOp .eql t (a.eval x) (a.eval y):Sem Value).run P w=_
 rw[h3,h4,Sem.run_bind,q4q (cx:=.slice ad 0 cap) (cy:=.slice none 0 0) w (by rintro⟨h,_⟩;cases h) (by rintro⟨_,_,h,_⟩;cases h)]
 simp only[Result.andThen]
 rw[(z0M (t:=t) (cx:=.slice ad 0 cap) (cy:=.slice none 0 0) (by rintro⟨_,_,_,_,h,_⟩;cases h) (by rintro⟨_,_,h,_⟩;cases h) nofun nofun).1,Sem.run_bind]
 unfold Op.equal
 have h5:∀k,0<k→(Op.equalIn k t (.slice ad 0 cap) (.slice none 0 0)).run P w= .ok ad.isNone w:=fun k hk=>by
  obtain⟨d,rfl⟩:∃d,k=d+1:=⟨k-1,by omega⟩
  cases ad<;>simp[Op.equalIn,run_underlying hu]
 rw[h5 Op.maxDepth (by decide)]
 rfl
theorem TO.isNil(hP:POk P F gl K){t u ty:TypeId}{x y:Operand}{d:Nat}{pos:String}{aft:Array Edge}{ti:TI}{e:TypeId}(hb:Nat.blt d n=true)(hx:evK (Ctx.of P gl K) l x=some (.isl []))(hy:evK (Ctx.of P gl K) l y=some .nilsl)(ht:(Ctx.of P gl K).ti t=some ti)(hd:ti.desc= .slice e)
  (k:∀b,TO P F all rest n rd ((d,.bool b)::l) h ds Q):TO P F all (⟨some d,.binOp .eql t x y u,ty,pos,aft,none⟩::rest) n rd l h ds Q:=
 .step rfl rfl hb (.isNil hP hx hy ht hd) fun v h' ⟨e1,b,e2⟩=>by subst e1 e2;exact k b
theorem TO.one(hP:POk P F gl K){o:Oper}{d:Nat}{v:AV}{h1:Hp}(hk:knowns l o.op.operands.toList=true)(hw:q6M all l o=some true)(hd:o.dst=some d)(hb:Nat.blt d n=true)(ho:opA P (Ctx.of P gl K) nix (knSt l h) o=some (.val v h1))(k:TO P F all rest n rd ((d,v)::l) h1 ds Q):TO P F all (o::rest) n rd l h ds Q:=
 .step (O:=fun u g=>u=v∧g=h1) hw hd hb (.det hP q0f fun s hs=>by
  rw[q7T (s':=knSt l h) hs.h (fun x hx=>q7U hs hk x (by simpa using hx))]
  exact ho) fun v' h' ⟨e1,e2⟩=>by subst e1 e2;exact k
theorem TW.wf{c:Code}(ht:(∀r,h.nx≤r→h.get r=none)→TW P F c n rd l h ds Q):TW P F c n rd l h ds Q:=fun s hs m a w fe k hr=>ht hr.wf s hs m a w fe k hr
end Go.Ax
set_option maxRecDepth 20000
noncomputable section
namespace Go.Ax
open Go.Proofs
attribute [local irreducible] TW TO CallsT PureC
variable{F:Nat→Option Obj}{gl:Nat→AV}{K:Knob}{S S':Nat→Prop}
theorem app_fresh{C:Ctx}{h:Hp}{es q:Nat}{t xt eT:TypeId}{x:AV}{rows:List (List AV)}{n:Nat}(ht:slT C t eT es=true)(hxt:z8s (C.ti xt)=true)(hq:h.get q=some (.cells eT []))(hqn:q<h.nx)(hl:lenA x=some n)(hn:rows.length=n)
  (hsrc:q0N h es n x=some rows.flatten) (hrows:∀c∈rows,c.length=es) (hcell:rows.flatten.all q1f=true) (hlen:n≤1000000):
  ∃p ex h',q0Z C t xt (.sl q 0 0 0 es true) x h=some (.sl p 0 n n es ex,h')∧(∀r,r<h.nx→h'.get r=h.get r)∧h.nx≤h'.nx∧(p=q∨h.nx≤p)∧p<h'.nx∧h'.get p=some (.cells eT rows.flatten):=by
 unfold slT at ht
 split at ht
 case h_2=>cases ht
 rename_i e size isAgg zero zeroOk bytes comparable zv y hti hy
 simp only[Y1X,Y2h]at ht
 obtain⟨rfl,hys,hz,hby⟩:=ht
 have hnl:rows.flatten.length=n*es:=by rw[q5K hrows,hn]
 cases hx:C.ti xt with
 |none=>rw[hx]at hxt;cases hxt
 |some xi=>
 rw[hx]at hxt
 have hxi:z2r xi.desc=true:=hxt
 have hsrc':q0N h y.size n x=some rows.flatten:=by rw[hys];exact hsrc
 have b1:Nat.ble y.bytes 1000000=true:=Y1x hby
 have b2:Nat.beq rows.flatten.length (Nat.mul n y.size)=true:=by rw[hnl,hys];exact Y1o _
 have b3:Nat.beq es y.size=true:=by rw[hys];exact Y1o _
 have b4:Nat.ble (Nat.add 0 n) 1000000=true:=Y1x (by simp;omega)
 by_cases h0:n=0
 ·subst h0
  obtain rfl:=Y1y hn
  refine⟨q,true,h.put q (.cells e []),?_,fun r hr=> ?_,Y0u _,.inl rfl,hqn,by rw[get_put,Y0e rfl];rfl⟩
  ·unfold q0Z
   rw[hti,hx,hl]
   try dsimp only
   rw[hy,hxi]
   try dsimp only
   rw[hsrc']
   try dsimp only
   rw[hcell,b1,b2]
   try dsimp only
   rw[hq]
   try dsimp only
   rw[b3]
   simp[q1h,q3m]
  ·rw[get_put]
   by_cases e:q=r
   ·subst e;rw[Y0e rfl,hq]
   ·rw[Y0c e]
 ·have b5:Nat.ble (Nat.add 0 n) 0=false:=by
   cases hc:Nat.ble (Nat.add 0 n) 0 with
   |false=>rfl
   |true=>have:=Y0J hc;simp at this;omega
  refine⟨h.nx,false,h.new (.cells e rows.flatten),?_,fun r hr=>by rw[get_new,Y0c (by omega)],Y0A _,.inr (Y0u _),Y0B _,by rw[get_new,Y0e rfl]⟩
  ·unfold q0Z
   rw[hti,hx,hl]
   try dsimp only
   rw[hy,hxi]
   try dsimp only
   rw[hsrc']
   try dsimp only
   rw[hcell,b1,b2]
   try dsimp only
   rw[hq]
   try dsimp only
   rw[b3,b4,b5,hz]
   simp
theorem x5w{X:Type}{C:Ctx}{es:Nat}{t eT:TypeId}{enc:X→List AV}(ht:slT C t eT es=true)(hxt:z8s (C.ti t)=true)(hes:∀a,(enc a).length=es)(hce:∀a,(enc a).all q1f=true)(l:List X)(hlen:l.length≤1000000)(h:Hp):
  ∃p ex h',q0Z C t t (.sl h.nx 0 0 0 es true) (.isl (l.map enc)) (h.new (.cells eT []))=some (.sl p 0 l.length l.length es ex,h')∧Wid h h'∧h.nx≤p∧p<h'.nx∧h'.get p=some (.cells eT (l.map enc).flatten):=by
 have hel:∀c∈l.map enc,c.length=es:=fun c hc=>by obtain⟨a,_,rfl⟩:=Y2S.1 hc;exact hes a
 have hca:(l.map enc).flatten.all q1f=true:=by
  rw[Y0G]
  intro c hc
  obtain⟨r,hr,hc2⟩:=List.mem_flatten.1 hc
  obtain⟨a,_,rfl⟩:=Y2S.1 hr
  exact Y0G.1 (hce a) c hc2
 have hs:=z9b (h:=h.new (.cells eT [])) hel
 rw[Y1q]at hs
 obtain⟨p,ex,h',q1,q2,q3,q4,q5,q6⟩:=app_fresh (q:=h.nx) (h:=h.new (.cells eT [])) (x:=.isl (l.map enc)) (rows:=l.map enc) (n:=l.length) ht hxt (by simp[get_new]) (by simp) (by simp[lenA]) (by simp) hs hel hca hlen
 have hn:=nx_new (h:=h) (o:=.cells eT [])
 refine⟨p,ex,h',q1,⟨by omega,fun r hr=> ?_⟩,by omega,q5,q6⟩
 rw[q2 r (by omega),get_new,Y0c (by omega)]
theorem x7A(hP:POk Tryz.prog F gl K)(xs:Sl Int)(hlen:xs.list.length≤1000000)(h0:Hp):
    CallsT Tryz.prog F h0 (fun v g=>Wid h0 g∧∃S,(∀s,S s→h0.nx≤s∧s<g.nx)∧IntO AnyF v xs.list g S) q0v [xs.av cI]:=by
  refine Y2y hP q0f q2B rfl rfl ?_
  have hnil:q0B (Ctx.of Tryz.prog gl K) .eql q0m .nilsl .nilsl=some (.bool true):=by kernel_rfl
  dsimp only[q0m]at hnil
  have done:∀(l:List Int) p ex h',Wid h0 h'→h0.nx≤p→p<h'.nx→h'.get p=some (.cells q0x (l.map cI).flatten)→Wid h0 h'∧∃S,(∀s,S s→h0.nx≤s∧s<h'.nx)∧IntO AnyF (.sl p 0 l.length l.length 1 ex) l h' S:=fun l p ex h' q2 q3 q4 q5=>by
    have e:∀l:List Int,(l.map cI).flatten=l.map (.int .i64):=fun l=>by induction l with|nil=>rfl|cons a l ih=>simp[ih]
    cases l with
    |nil=>exact⟨q2,fun _=>False,nofun,.inl ⟨rfl,.inr ⟨trivial,.inr ⟨_,_,_,_,_,rfl⟩⟩⟩⟩
    |cons a l=>exact⟨q2,fun s=>s=p,fun s hs=>by omega,.inr ⟨p,ex,trivial,nofun,rfl,rfl,by rw[q5,e]⟩⟩
  cases xs with
  | nil=>
    repeat' first|refine Y2v ?_|refine Y2I hP rfl ?_|(refine Y2W hP (by simp[Sl.av,hnil]<;>rfl) ?_;dsimp only[goK])|simp only[q0a,q0c,q0d,↓reduceIte,Nat.reduceEqDiff,reduceCtorEq]|(refine Y2u ⟨.inr rfl,_,_,rfl,rfl,?_⟩;dsimp only[q0q])
    exact⟨.refl _,fun _=>False,nofun,.inl ⟨rfl,.inr ⟨trivial,.inl rfl⟩⟩⟩
  | mk l=>
    obtain⟨p,ex,h',q1,q2,q3,q4,q5⟩:=x5w (enc:=cI) (q1a (gl:=gl) (K:=K)) q6S (fun _=>rfl) (fun _=>rfl) l hlen h0
    dsimp only[q0m,q0x]at q1
    cases l with
    | cons a l=>
      have hne:q0B (Ctx.of Tryz.prog gl K) .eql q0m (.isl (cI a::l.map cI)) .nilsl=some (.bool false):=by kernel_rfl
      dsimp only[q0m]at hne
      rw[Y1f]at q1
      dsimp only[cI]at q1 hne
      repeat' first|refine Y2v ?_|refine Y2s ?_|refine Y2J hP rfl ?_|(refine Y2W hP (by simp[Sl.av,hne,q1]<;>rfl) ?_;dsimp only[goK])|simp only[q0a,q0c,q0d,↓reduceIte,Nat.reduceEqDiff,reduceCtorEq]|(refine Y2u ⟨.inr rfl,_,_,rfl,rfl,?_⟩;dsimp only[q0q])
      exact done (a::l) p ex h' q2 q3 q4 q5
    | nil=>
      refine zG ?_
      refine Y2v (Y2v (TW.region ?_))
      refine TO.one hP (v:=.isl []) (h1:=h0) rfl rfl rfl rfl rfl ?_
      refine TO.isNil hP rfl rfl rfl (ti:=_) (e:=3) rfl rfl fun b=> ?_
      refine Y2X hP (by simp<;>rfl) ?_
      dsimp only[goK,q0a]
      cases b with
      | true=>
        refine zA0 ?_
        exact⟨.refl _,fun _=>False,nofun,.inl ⟨rfl,.inr ⟨trivial,.inl rfl⟩⟩⟩
      | false=>
        rw[List.map_nil]at q1
        repeat' first|refine Y2v ?_|refine Y2s ?_|refine Y2J hP rfl ?_|(refine Y2W hP (by simp[Sl.av,q1]<;>rfl) ?_;dsimp only[goK])|simp only[q0a,q0c,q0d,↓reduceIte,Nat.reduceEqDiff,reduceCtorEq]|(refine Y2u ⟨.inr rfl,_,_,rfl,rfl,?_⟩;dsimp only[q0q])
        exact done [] p ex h' q2 q3 q4 q5
end Go.Ax
set_option maxRecDepth 20000
noncomputable section
namespace Go.Ax
open Go.Proofs
attribute [local irreducible] TW TO CallsT PureC
variable{F:Nat→Option Obj}{gl:Nat→AV}{K:Knob}{S S':Nat→Prop}{X:Type}
theorem x7u(hP:POk Tryz.prog F gl K)(l:Sl Int)(v:Int)(hlen:l.list.length<1000000):PureC Tryz.prog F q3K [l.av cI,.int .i64 v] (.int .i64 (idxP (fun y=>decide (v=y)) l.list)):=by
 refine Y2z (O:=fun u _=>u= .int .i64 (idxP (fun y=>decide (v=y)) l.list)) (k:=1) (by simp) ?_ (fun u g e=>by subst e;rfl)
 refine Y2y hP q0f z0p rfl rfl ?_
 repeat' first|refine Y2v ?_|refine Y2x ?_|(refine Y2W hP (by simp<;>rfl) ?_;dsimp only[goK])
 refine Y2H (fun i:Nat=>[(0,l.av cI),(1,.int .i64 v),(7,.int .i64 l.list.length),(8,.int .i64 i)]) (fun i _=>i≤l.list.length∧∀j (hj:j<i) (hl:j<l.list.length),¬v=l.list[j]) (fun i=>l.list.length-i) (0) ?_ ?_ ?_
 focus(repeat' first|exact q0h|refine q0e (by simp) ?_)
 ·exact⟨Y0E _,fun j hj=>absurd hj (Y2K _)⟩
 rintro i g ⟨hi,hno⟩
 repeat' first|refine Y2v ?_|(refine Y2W hP (by simp<;>rfl) ?_;dsimp only[goK])
 refine Y2w hP rfl (fun hc=>Y2s ?_) (fun hc=>Y2t ?_)
 ·simp at hc
  have hx:l.list[i]? =some l.list[i]:=Y0n hc
  have hav:=q0j (e:=cI) (show 0<l.list.length by omega)
  dsimp only[q0a]
  by_cases hv:v=l.list[i]
  ·repeat' first|refine Y2v ?_|refine Y2x ?_|refine Y2I hP rfl ?_|(refine Y2W hP (by simp[hav,hx,hc,hv]<;>rfl) ?_;dsimp only[goK])|simp only[q0a,q0c,q0d,↓reduceIte,Nat.reduceEqDiff,reduceCtorEq]|(refine Y2u ⟨.inr rfl,_,_,rfl,rfl,?_⟩;dsimp only[q0q])
   rw[idxP,Y3h.2 ⟨hc,by simpa using hv,fun j hj=>by simpa using hno j hj (by omega)⟩]
  ·repeat' first|refine Y2v ?_|refine Y2x ?_|refine Y2s ?_|refine Y2J hP rfl ?_|(refine Y2W hP (by simp[hav,hx,hc,hv]<;>rfl) ?_;dsimp only[goK])|simp only[q0a,q0c,q0d,↓reduceIte,Nat.reduceEqDiff,reduceCtorEq]
   refine⟨i+1,by omega,trivial,?_,by omega,fun j hj hl=> ?_⟩
   ·repeat' first|exact q0h|refine q0e (by simp[hav,w64s (show i<9000000000000000000 by omega)]) ?_
   ·by_cases h:j=i
    ·subst h;exact hv
    ·exact hno j (by omega) hl
 ·simp at hc
  dsimp only[q0a]
  repeat' first|refine Y2v ?_|(refine Y2W hP (by simp<;>rfl) ?_;dsimp only[goK])|simp only[q0a,q0c,q0d,↓reduceIte,Nat.reduceEqDiff,reduceCtorEq]|(refine Y2u ⟨.inr rfl,_,_,rfl,rfl,?_⟩;dsimp only[q0q])
  rw[idxP,Y3g.2 fun x hx=>by
   obtain⟨j,hj,rfl⟩:=Y0F hx
   simpa using hno j (by omega) hj]
theorem q4r(hP:POk Tryz.prog F gl K)(l:Sl Int)(v:Int)(hlen:l.list.length<1000000):PureC Tryz.prog F q1A [l.av cI,.int .i64 v] (.bool (l.list.any fun y=>decide (v=y))):=by
 have e1:=x7u hP l v hlen
 refine Y2z (O:=fun u _=>u= .bool (l.list.any fun y=>decide (v=y))) (k:=1) (by simp) ?_ (fun u g e=>by subst e;rfl)
 refine Y2y hP q0f q8X rfl rfl ?_
 repeat' first|refine Y2v ?_|(refine Y2W hP (by simp<;>rfl) ?_;dsimp only[goK])|(refine Y2O hP z0m (e1) ?_ rfl rfl rfl rfl ?_;(focus(simp;done));refine Y2X hP (by simp<;>rfl) ?_;dsimp only[goK])|simp only[q0a,q0c,q0d,↓reduceIte,Nat.reduceEqDiff,reduceCtorEq]|(refine Y2u ⟨.inr rfl,_,_,rfl,rfl,?_⟩;dsimp only[q0q])
 rw[←z1x]
end Go.Ax
