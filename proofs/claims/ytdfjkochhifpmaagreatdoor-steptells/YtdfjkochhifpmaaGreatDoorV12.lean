import Derived.Test.YtdfjkochhifpmaaGreatDoorV11
set_option linter.unusedSimpArgs false
set_option linter.unusedVariables false
set_option maxRecDepth 20000
noncomputable section
namespace Go.Ax
open Go.Proofs
attribute [local irreducible] TW TO CallsT PureC
variable{F:Nat→Option Obj}{gl:Nat→AV}{K:Knob}
def q1c(x:LIns):List Int:=(if q2e x.op=true then [x.a]else [])++((if two6 x.op=true then [x.b]else [])++(if q0C x.op=true then x.args.list else []))
theorem x4Y{h:Hp}{b k:Nat}{v:AV}{l:List Int}(ho:Own 1 q0x b h v (l.map cI)):frzV (k+2) h v=some (slOf l):=by
  cases l with
  | nil=>
    rcases ho with⟨rfl,_⟩|⟨h1,_⟩
    ·rfl
    ·exact absurd rfl h1
  |cons a l=>exact z0R ho (by simp)
theorem x1i(x:Sl Int):lenA (x.av cI)=some (x.list.map cI).length:=by rw[q2c];simp
theorem z9l{h:Hp}(x:Sl Int):q0N h 1 (x.list.map cI).length (x.av cI)=some (x.list.map cI).flatten:=by
 cases x with
 |nil=>rfl
 |mk l=>exact z9b q1v
theorem z8y(hP:POk Tryz.prog F gl K)(x:LIns)(hlen:x.args.list.length<900000):PureC Tryz.prog F q5Z [.agg x.cells] (slOf (q1c x)):=by
  refine Y2z (O:=fun u g=>frzV 3 g u=some (slOf (q1c x))) (k:=3) (by simp) ?_ (fun u g e=>e)
  refine Y2y hP q0f z4s rfl rfl ?_
  refine zG ?_
  refine zG ?_
  refine Y2U (fun g=>g.get 0=some (.cells q1e x.cells)∧1≤g.nx) ⟨by simp,by simp⟩ fun g hgg=> ?_
  obtain⟨hg,hnx⟩:=hgg
  dsimp only[q1e]at hg
  refine Y3r (fun v:AV=>[(1,.ptr 0 0),(3,v)]) (fun v g=>g.get 0=some (.cells q1e x.cells)∧1≤g.nx∧Own 1 q0x 1 g v ((if q2e x.op=true then [x.a]else []).map cI)) ?_ ?_
  · cases hA:q2e x.op with
    | true=>
      obtain⟨v',k',happ,hown',hwb,hnx'⟩:=(Own.nil (es:=1) (eT:=q0x) (b:=1) (h:=g)).push (t:=q0m) (row:=[.int .i64 x.a]) (q1a (gl:=gl) (K:=K)) (fun c hc=>by cases hc) rfl rfl (by simp) hnx
      dsimp only[q0m,q0x]at happ
      refine zA1f (zc @hA (zc @hg @happ)) q6i (z4T hP x.op) ?_
      refine⟨v',rfl,?_,?_,by omega,hown'⟩
      ·exact zL
      ·rw[hwb.get 0 (by omega)];exact hg
    | false=>
      refine zA1f (zc @hA @hg) q6i (z4T hP x.op) ?_
      refine⟨.nilsl,rfl,?_,hg,hnx,.nil⟩
      exact zL
  rintro v g ⟨hg,hnx,hown⟩
  dsimp only[q1e,q0x]at hg hown
  refine Y3r (fun v:AV=>[(1,.ptr 0 0),(3,v)]) (fun v g=>g.get 0=some (.cells q1e x.cells)∧1≤g.nx∧Own 1 q0x 1 g v (((if q2e x.op=true then [x.a]else [])++(if two6 x.op=true then [x.b]else [])).map cI)) ?_ ?_
  · cases h2:two6 x.op with
    | true=>
      obtain⟨v',k',happ,hown',hwb,hnx'⟩:=hown.push (t:=q0m) (row:=[.int .i64 x.b]) (q1a (gl:=gl) (K:=K)) q1v rfl rfl (by split<;>simp) hnx
      dsimp only[q0m,q0x]at happ
      refine zA1f (zc @h2 (zc @hg @happ)) q4t (z3C hP x.op) ?_
      refine⟨v',rfl,?_,?_,by omega,?_⟩
      ·exact zL
      ·rw[hwb.get 0 (by omega)];exact hg
      ·rw[Y3m];exact hown'
    | false=>
      refine zA1f (zc @h2 @hg) q4t (z3C hP x.op) ?_
      refine⟨v,rfl,?_,hg,hnx,by simpa using hown⟩
      exact zL
  rintro v g ⟨hg,hnx,hown⟩
  dsimp only[q1e,q0x]at hg hown
  refine Y3r (fun v:AV=>[(1,.ptr 0 0),(3,v)]) (fun v g=>Own 1 q0x 1 g v ((q1c x).map cI)) ?_ ?_
  · cases h2:q0C x.op with
    | true=>
      obtain⟨v',k',happ,hown',hwb⟩:=Own.more (x:=x.args.av cI) (rows':=x.args.list.map cI) (q1a (gl:=gl) (K:=K)) q6S hown q1v (x1i _) rfl (z9l _) q1v z0L (by simp only[Y1q,Y0X];(repeat' split)<;>simp<;>omega) hnx
      dsimp only[q0m,q0x]at happ
      refine zA1f (zc @h2 (zc @hg @happ)) q4l (q9L hP x.op) ?_
      refine⟨v',rfl,?_,?_⟩
      ·exact zL
      ·rw[←Y3m]at hown';simpa [q1c,h2]using hown'
    | false=>
      refine zA1f (zc @h2 @hg) q4l (q9L hP x.op) ?_
      refine⟨v,rfl,?_,by simpa [q1c,h2]using hown⟩
      exact zL
  rintro v g hown
  refine zA0 ?_
  exact x4Y hown
def slL(l:List Int):Sl Int:=match l with|[]=>.nil|l=>.mk l
theorem q0l(l:List Int):(slL l).list=l:=by cases l<;>rfl
theorem z6F(l:List Int):slOf l=(slL l).av cI:=by cases l<;>rfl
def z4F(nf:Int)(x:LIns)(regs:Int):Bool:=(decide (x.op<1)||decide (22<x.op))||(!q2R (q1c x) regs|| !x2J nf x)
def z4E(x:LIns):Bool:=(!q2e x.op&& !decide (x.a=0))||((!two6 x.op&& !decide (x.b=0))||(!q0C x.op&&decide ((0:Int)<x.args.list.length)))
def z4D(nt:Int)(x:LIns):Bool:=(q2K x.op&&(decide (x.type<0)||decide (nt≤x.type)))||(!q2K x.op&& !decide (x.type=0))
def z2t(x:LIns)(many:Int):Bool:=if x.op=22 then decide ((x.frm.list.length:Int)=x.args.list.length)&&(decide ((1:Int)≤x.frm.list.length)&&(decide ((x.frm.list.length:Int)≤16)&&q2R x.frm.list many))else decide ((x.frm.list.length:Int)=0)&&decide ((x.args.list.length:Int)≤4)
def q2u(nt nf:Int)(x:LIns)(regs many:Int):Bool:= !z4F nf x regs&&(!z4E x&&(!z4D nt x&&z2t x many))
theorem x1P(hP:POk Tryz.prog F gl K)(p:LProg)(x:LIns)(regs many:Int)(h1:x.args.list.length<900000)(h2:x.frm.list.length<900000):PureC Tryz.prog F q7v [.agg p.cells,.agg x.cells,.int .i64 regs,.int .i64 many] (.bool (q2u p.types.list.length p.funcs.list.length x regs many)):=by
 refine zP z1W ?_
 have e1:=z8y hP x h1
 rw[z6F]at e1
 have hul:(q1c x).length<1000000:=by
  unfold q1c
  simp only[Y0X]
  (repeat' split)<;>simp<;>omega
 have e2:=q7W hP (slL (q1c x)) regs (by rw[q0l];exact hul)
 rw[q0l]at e2
 have e3:=x6s hP p x
 refine zG ?_
 refine Y2U (fun g=>g.get 0=some (.cells q0o p.cells)∧g.get 1=some (.cells q1e x.cells)) ⟨by simp,by simp⟩ fun g hgg=> ?_
 obtain⟨hg0,hg1⟩:=hgg
 dsimp only[q1e,q0o]at hg0 hg1
 refine Y3r (fun _:Unit=>[(2,.int .i64 regs),(3,.int .i64 many),(4,.ptr 0 0),(5,.ptr 1 0)]) (fun _ g=>g.get 0=some (.cells q0o p.cells)∧g.get 1=some (.cells q1e x.cells)∧z4F p.funcs.list.length x regs=false) ?_ ?_
 ·repeat' first|refine zA3f (zc @hg0 @hg1) z4j e1 q2w e2 z4i e3 ?_|refine zSf (zc @hg0 @hg1) (fun hb=> ?_) (fun hb=> ?_)|(refine Y2w hP rfl (fun hc=> ?_) (fun hc=> ?_)<;>simp at hc)
  all_goals first|(refine⟨(),rfl,?_,hg0,hg1,?_⟩<;>first|(focus((repeat' first|exact q0h|refine q0e (by simp) ?_);done))|(focus(simp_all[z4F];done)))|(focus(simp_all[q2u,z4F];done))
 rintro _ g ⟨hg0,hg1,hA⟩
 dsimp only[q1e,q0o]at hg0 hg1
 refine Y3r (fun _:Unit=>[(2,.int .i64 regs),(3,.int .i64 many),(4,.ptr 0 0),(5,.ptr 1 0)]) (fun _ g=>g.get 0=some (.cells q0o p.cells)∧g.get 1=some (.cells q1e x.cells)∧z4E x=false) ?_ ?_
 ·repeat' first|refine zA3f (zc @hg0 @hg1) q6i (z4T hP x.op) q4t (z3C hP x.op) q4l (q9L hP x.op) ?_|refine zSf (zc @hg0 @hg1) (fun hb=> ?_) (fun hb=> ?_)|(refine Y2w hP rfl (fun hc=> ?_) (fun hc=> ?_)<;>simp at hc)
  all_goals first|(refine⟨(),rfl,?_,hg0,hg1,?_⟩<;>first|(focus((repeat' first|exact q0h|refine q0e (by simp) ?_);done))|(focus(simp_all[z4E];done)))|(focus(simp_all[q2u,z4E];done))
 rintro _ g ⟨hg0,hg1,hB⟩
 dsimp only[q1e,q0o]at hg0 hg1
 refine Y3r (fun _:Unit=>[(2,.int .i64 regs),(3,.int .i64 many),(4,.ptr 0 0),(5,.ptr 1 0)]) (fun _ g=>g.get 0=some (.cells q0o p.cells)∧g.get 1=some (.cells q1e x.cells)∧z4D p.types.list.length x=false) ?_ ?_
 ·repeat' first|refine zA1f (zc @hg0 @hg1) q4m (z3W hP x.op) ?_|refine zSf (zc @hg0 @hg1) (fun hb=> ?_) (fun hb=> ?_)|(refine Y2w hP rfl (fun hc=> ?_) (fun hc=> ?_)<;>simp at hc)
  all_goals first|(refine⟨(),rfl,?_,hg0,hg1,?_⟩<;>first|(focus((repeat' first|exact q0h|refine q0e (by simp) ?_);done))|(focus(simp_all[z4D];done)))|(focus(simp_all[q2u,z4D];done))
 rintro _ g ⟨hg0,hg1,hC⟩
 dsimp only[q1e,q0o]at hg0 hg1
 have e4:=q7W hP x.frm many (by omega)
 repeat' first|refine zA1f (zc @hg0 @hg1) q2w e4 ?_|refine zSf (zc @hg0 @hg1) (fun hb=> ?_) (fun hb=> ?_)|(refine Y2w hP rfl (fun hc=> ?_) (fun hc=> ?_)<;>simp at hc)
 all_goals first|(focus(simp_all[q2u,z2t];done))|(focus(simp_all[q2u,z2t];omega))
def q4H(x:LEnd)(regs many:Int):Bool:=
 if x.kind=1 then decide (x.a=0)&&(decide (x.els=0)&&q2R [x.to] many)
 else if x.kind=2 then q2R [x.a] regs&&q2R [x.to,x.els] many
 else if x.kind=3 then decide (x.to=0)&&(decide (x.els=0)&&q2R [x.a] regs)
 else false
theorem x1Q(hP:POk Tryz.prog F gl K)(x:LEnd)(regs many:Int):PureC Tryz.prog F q7w [.agg x.cells,.int .i64 regs,.int .i64 many] (.bool (q4H x regs many)):=by
 refine zP z1X ?_
 have e1:=q7W hP (.mk [x.to]) many (by simp[Sl.list])
 have e2:=q7W hP (.mk [x.a]) regs (by simp[Sl.list])
 have e3:=q7W hP (.mk [x.to,x.els]) many (by simp[Sl.list])
 dsimp only[Sl.av,Sl.list]at e1 e2 e3
 repeat' first|refine zA0 ?_|(refine Y3b hP q2w (e1) ?_ rfl rfl rfl (by simp<;>rfl) ?_ rfl ?_;(focus(simp;done));(focus(repeat' first|exact Y2Y|apply Y3a|refine FrzL.ints (by simp<;>rfl) rfl ?_);done);refine Y2X hP (by simp<;>rfl) ?_;dsimp only[goK])|(refine Y3b hP q2w (e2) ?_ rfl rfl rfl (by simp<;>rfl) ?_ rfl ?_;(focus(simp;done));(focus(repeat' first|exact Y2Y|apply Y3a|refine FrzL.ints (by simp<;>rfl) rfl ?_);done);refine Y2X hP (by simp<;>rfl) ?_;dsimp only[goK])|(refine Y3b hP q2w (e3) ?_ rfl rfl rfl (by simp<;>rfl) ?_ rfl ?_;(focus(simp;done));(focus(repeat' first|exact Y2Y|apply Y3a|refine FrzL.ints (by simp<;>rfl) rfl ?_);done);refine Y2X hP (by simp<;>rfl) ?_;dsimp only[goK])|refine zS (fun hb=> ?_) (fun hb=> ?_)|(refine Y2w hP rfl (fun hc=> ?_) (fun hc=> ?_)<;>simp at hc)
 all_goals clear e1 e2 e3
 all_goals first|(focus(simp_all[q4H];done))
def q1o:List LBlock→Int
 |[]=>0
 |b::l=>b.ins.list.length+q1o l
theorem x1e(l k:List LBlock):q1o (l++k)=q1o l+q1o k:=by
 induction l with
 |nil=>simp[q1o]
 |cons a l ih=>simp[q1o,ih];omega
theorem q6A{l:List LBlock}{i:Nat}{x:LBlock}(hx:l[i]? =some x):q1o (l.take (i+1))=q1o (l.take i)+x.ins.list.length:=by
 obtain⟨h,rfl⟩:=Y0m.1 hx
 rw[Y1B h,x1e]
 simp[q1o]
theorem q1r:∀l:List LBlock,0≤q1o l
 |[]=>by simp[q1o]
 |a::l=>by have:=q1r l;simp only[q1o];omega
theorem q8w(l:List LBlock)(i:Nat):q1o (l.take i)≤q1o l:=by
 have h:=x1e (l.take i) (l.drop i)
 rw[List.take_append_drop]at h
 have:=q1r (l.drop i)
 omega
theorem z8G(hP:POk Tryz.prog F gl K)(l:Sl LBlock)(hlen:l.list.length<1000000)(hm:q1o l.list<1000000000):PureC Tryz.prog F q6c [l.av LBlock.cells] (.int .i64 (q1o l.list)):=by
 refine zP z4v ?_
 refine zA0 ?_
 refine Y2H (fun i:Nat=>[(0,l.av LBlock.cells),(3,.int .i64 (q1o (l.list.take i))),(4,.int .i64 i)]) (fun i _=>i≤l.list.length) (fun i=>l.list.length-i) (0) ?_ ?_ ?_
 focus(repeat' first|exact q0h|refine q0e (by simp[q1o]) ?_)
 ·exact Y0E _
 rintro i g hi
 refine zR0 ?_
 refine Y2w hP rfl (fun hc=>Y2s ?_) (fun hc=>Y2t ?_)
 ·simp at hc
  obtain⟨x,hx⟩:=q0b hc
  have hav:=q0j (e:=LBlock.cells) (show 0<l.list.length by omega)
  have hs:=q6A hx
  have h1:=q8w l.list (i+1)
  have h2:=q1r (l.list.take i)
  dsimp only[q0a]
  refine zA0f (zc @hx @hav) ?_
  refine⟨i+1,by omega,trivial,?_,by omega⟩
  exact zLf (zc @hav (zc (w64s (show i<9000000000000000000 by omega)) (zc @hs (w64e (n:=q1o (l.list.take i)+x.ins.list.length) (by omega) (by omega)))))
 ·simp at hc
  dsimp only[q0a]
  refine zA0 ?_
  rw[Y2Q hc]
def q0w(p:LProg)(f:LFunc):Int:=match p.types.list[f.sig.toNat]? with|some x=>x.parts.list.length|none=>0
theorem z5u(hP:POk Tryz.prog F gl K)(p:LProg)(f:LFunc)(h0:0≤f.sig)(h1:f.sig<p.types.list.length):PureC Tryz.prog F q7x [.agg p.cells,.agg f.cells] (.int .i64 (q0w p f)):=by
 refine zP z1Y ?_
 obtain⟨n,hn⟩:=Y3j h0
 obtain⟨x,hx⟩:=q0b (show n<p.types.list.length by omega)
 have hav:=q0j (e:=LType.cells) (show 0<p.types.list.length by omega)
 refine zA0f (zc @hn (zc @hx @hav)) ?_
 simp[q0w,hn,hx]
structure SmallF(f:LFunc):Prop where
 nb:f.blocks.list.length<900000
 many:q1o f.blocks.list<900000
 args:∀b∈f.blocks.list,∀x∈b.ins.list,x.args.list.length<900000
 frm:∀b∈f.blocks.list,∀x∈b.ins.list,x.frm.list.length<900000
def q9u(p:LProg)(f:LFunc):Int:=match p.types.list[f.sig.toNat]? with|some x=>x.kind|none=>0
def q3o(p:LProg)(f:LFunc):Bool:=
 decide (f.sig<0)||(decide ((p.types.list.length:Int)≤f.sig)||(!decide (q9u p f=3)||(decide ((f.blocks.list.length:Int)<1)||(decide ((16:Int)<f.blocks.list.length)||decide (128<q1o f.blocks.list)))))
def q2Y(p:LProg)(f:LFunc):Int:=q0w p f+q1o f.blocks.list
def q3c(p:LProg)(f:LFunc)(b:LBlock):Bool:=b.ins.list.all (fun x=>q2u p.types.list.length p.funcs.list.length x (q2Y p f) f.blocks.list.length)&&q4H b.ed (q2Y p f) f.blocks.list.length
def q1b(p:LProg)(f:LFunc):Bool:= !q3o p f&&f.blocks.list.all (q3c p f)
theorem z9M(hP:POk Tryz.prog F gl K)(hX:∀f a,K.ext f a=none)(p:LProg)(f:LFunc)(hs:SmallF f)(hp:∀x∈p.types.list,x.parts.list.length<900000):PureC Tryz.prog F q6W [.agg p.cells,.agg f.cells] (.bool (q1b p f)):=by
  refine zP z1n ?_
  have e1:=z8G hP f.blocks (by have:=hs.nb;omega) (by have:=hs.many;omega)
  refine zG ?_
  refine Y2U (fun g=>g.get 0=some (.cells q0o p.cells)∧g.get 1=some (.cells q4C f.cells)) ⟨by simp,by simp⟩ fun g hgg=> ?_
  obtain⟨hg0,hg1⟩:=hgg
  dsimp only[q4C,q0o]at hg0 hg1
  refine Y3r (fun _:Unit=>[(2,.ptr 0 0),(3,.ptr 1 0)]) (fun _ g=>g.get 0=some (.cells q0o p.cells)∧g.get 1=some (.cells q4C f.cells)∧q3o p f=false) ?_ ?_
  · by_cases h0:0≤f.sig
    · obtain⟨n,hn⟩:=Y3j h0
      by_cases h1:n<p.types.list.length
      · obtain⟨x,hx⟩:=q0b h1
        have hav:=q0j (e:=LType.cells) (show 0<p.types.list.length by omega)
        have hk:q9u p f=x.kind:=by simp[q9u,hn,Y2G h1,hx]
        have hnl:¬(p.types.list.length:Int)≤f.sig:=by omega
        have h01:¬f.sig<0:=by omega
        repeat' first|refine zA1f (zc @hg0 (zc @hg1 (zc @hn (zc (Y2G h1) (zc @hx @hav))))) q6h e1 ?_|refine zSf (zc @hg0 (zc @hg1 (zc @hn (zc (Y2G h1) (zc @hx @hav))))) (fun hb=> ?_) (fun hb=> ?_)|(refine Y2w hP rfl (fun hc=> ?_) (fun hc=> ?_)<;>simp at hc)
        all_goals clear e1
        all_goals first|(refine⟨(),rfl,?_,hg0,hg1,?_⟩<;>first|(focus((repeat' first|exact q0h|refine q0e (by simp) ?_);done))|(focus(simp_all[q3o];done)))|(focus(simp_all[q1b,q3o];done))
      · have hnl:(p.types.list.length:Int)≤f.sig:=by omega
        have h01:¬f.sig<0:=by omega
        repeat' first|refine zA1f (zc @hg0 (zc @hg1 (zc @hn (Y2G (show p.types.list.length≤n by omega))))) q6h e1 ?_|refine zSf (zc @hg0 (zc @hg1 (zc @hn (Y2G (show p.types.list.length≤n by omega))))) (fun hb=> ?_) (fun hb=> ?_)|fail
        all_goals first|(focus(simp[q1b,q3o,hnl];done))
    · have h01:f.sig<0:=by omega
      refine zA1f (zc @hg0 (zc @hg1 (Y2G h01))) q6h e1 ?_
      simp[q1b,q3o,h01]
  rintro _ g ⟨hg0,hg1,hA⟩
  dsimp only[q4C,q0o]at hg0 hg1
  have hA':=hA
  simp only[q3o,Y2l,Y3s,Y3t,Y2h]at hA'
  obtain⟨a1,a2,a3,a4,a5,a6⟩:=hA'
  have e2:=z5u hP p f (by omega) (by omega)
  have hpos:=q1r f.blocks.list
  have hsp:0≤q0w p f∧q0w p f<900000:=by
    unfold q0w
    cases hx:p.types.list[f.sig.toNat]? with
    |none=>simp
    |some x=>have:=hp x (Y0N hx);simp;omega
  have hsm:=hs.many
  have hav:=q0j (e:=LBlock.cells) (show 0<f.blocks.list.length by omega)
  refine zEf (zc @hg0 (zc @hg1 (zc (w64e (n:=q0w p f+q1o f.blocks.list) (by omega) (by omega)) (zc @q7B (zc @q7D (zc @q8H @q8K)))))) (tl 43 [.agg p.cells,.agg f.cells] (.int .i64 (q0w p f)) (e2) (tl 99 [f.blocks.av LBlock.cells] (.int .i64 (q1o f.blocks.list)) (e1) t0)) ?_
  refine zA0 ?_
  refine Y2H (fun i:Nat=>[(2,.ptr 0 0),(3,.ptr 1 0),(5,.int .i64 (q2Y p f)),(6,.int .i64 i)]) (fun i g=>i≤f.blocks.list.length∧g.get 0=some (.cells q0o p.cells)∧g.get 1=some (.cells q4C f.cells)∧(f.blocks.list.take i).all (q3c p f)=true) (fun i=>f.blocks.list.length-i) (0) ?_ ?_ ?_
  focus(repeat' first|exact q0h|refine q0e (by simp[q2Y]) ?_)
  ·exact⟨Y0E _,by simpa using hg0,by simpa using hg1,rfl⟩
  rintro i g ⟨hi,hg0,hg1,hall⟩
  dsimp only[q4C,q0o]at hg0 hg1
  refine zR0f (zc @hg0 @hg1) ?_
  refine Y2w hP rfl (fun hc=>Y2s ?_) (fun hc=>Y2t ?_)
  · simp at hc
    obtain⟨b,hb⟩:=q0b hc
    have hi2:=hc
    have hbm:=Y0N hb
    have hst:=q1U (p:=q3c p f) hb
    have bad:q3c p f b=false→AV.bool false= .bool (q1b p f):=fun h=>by rw[q1b,q3l hb h,Bool.and_false]
    have hins:b.ins.list.length<900000:=by
      have h1:=q6A hb
      have h2:=q8w f.blocks.list (i+1)
      have h3:=q1r (f.blocks.list.take i)
      omega
    dsimp only[q0a]
    refine zA0 ?_
    refine Y2H (fun k:Nat=>[(2,.ptr 0 0),(3,.ptr 1 0),(5,.int .i64 (q2Y p f)),(6,.int .i64 i),(7,.int .i64 k)]) (fun k g=>k≤b.ins.list.length∧g.get 0=some (.cells q0o p.cells)∧g.get 1=some (.cells q4C f.cells)∧(b.ins.list.take k).all (fun x=>q2u p.types.list.length p.funcs.list.length x (q2Y p f) f.blocks.list.length)=true) (fun k=>b.ins.list.length-k) (0) ?_ ?_ ?_
    focus(repeat' first|exact q0h|refine q0e (by simp) ?_)
    ·exact⟨Y0E _,by simpa using hg0,by simpa using hg1,rfl⟩
    rintro k g ⟨hk,hg0,hg1,hall2⟩
    dsimp only[q4C,q0o]at hg0 hg1
    refine zR0f (zc @hg0 (zc @hg1 (zc @hav @hb))) ?_
    refine Y2w hP rfl (fun hc=>Y2s ?_) (fun hc=>Y2t ?_)
    · simp at hc
      obtain⟨x,hx⟩:=q0b hc
      have hxm:=Y0N hx
      have hav2:=q0j (e:=LIns.cells) (show 0<b.ins.list.length by omega)
      have hst2:=q1U (p:=fun x=>q2u p.types.list.length p.funcs.list.length x (q2Y p f) f.blocks.list.length) hx
      have e3:=x1P hP p x (q2Y p f) f.blocks.list.length (hs.args b hbm x hxm) (hs.frm b hbm x hxm)
      dsimp only[q0a]
      refine zA0 ?_
      refine zEf (zc @hg0 (zc @hg1 (zc @hav (zc @hb (zc @hav2 (zc @hx (zc @z1N @z2b))))))) (tl 111 [.agg p.cells,.agg x.cells,.int .i64 (q2Y p f),.int .i64 f.blocks.list.length] (.bool (q2u p.types.list.length p.funcs.list.length x (q2Y p f) f.blocks.list.length)) (e3) t0) ?_
      cases hm:q2u p.types.list.length p.funcs.list.length x (q2Y p f) f.blocks.list.length with
      | false=>
        refine zA0f @hm ?_
        exact bad (by rw[q3c,q3l hx hm];rfl)
      | true=>
        refine zA0f @hm ?_
        refine⟨k+1,by omega,trivial,?_,by omega,by simpa using hg0,by simpa using hg1,by rw[hst2,hall2,hm];rfl⟩
        exact zLf (w64s (show k<9000000000000000000 by omega))
    · simp at hc
      rw[Y2Q hc]at hall2
      have e4:=x1Q hP b.ed (q2Y p f) f.blocks.list.length
      dsimp only[q0a]
      refine zA0 ?_
      refine zEf (zc @hg0 (zc @hg1 (zc @hav (zc @hb (zc @z1O @z2c))))) (tl 112 [.agg b.ed.cells,.int .i64 (q2Y p f),.int .i64 f.blocks.list.length] (.bool (q4H b.ed (q2Y p f) f.blocks.list.length)) (e4) t0) ?_
      cases hm:q4H b.ed (q2Y p f) f.blocks.list.length with
      | false=>
        refine zA0f @hm ?_
        exact bad (by rw[q3c,hall2,hm];rfl)
      | true=>
        refine zA0f @hm ?_
        refine⟨i+1,by omega,trivial,?_,by omega,by simpa using hg0,by simpa using hg1,by rw[hst,hall,q3c,hall2,hm];rfl⟩
        exact zLf (w64s (show i<9000000000000000000 by omega))
  · simp at hc
    rw[Y2Q hc]at hall
    dsimp only[q0a]
    refine zA0 ?_
    rw[q1b,hA,hall];rfl
structure SmallP(p:LProg):Prop where
 nt:p.types.list.length<900000
 parts:∀x∈p.types.list,x.parts.list.length<900000
 nf:p.funcs.list.length<900000
 funcs:∀f∈p.funcs.list,SmallF f
def q2I(p:LProg):Int:=if q8s p.types.list=0 then(if p.funcs.list.all (q1b p)=true then(if(p.funcs.list.length:Int)<1∨(8:Int)<p.funcs.list.length then 60 else 0)else 60)else q8s p.types.list
theorem x3W(hP:POk Tryz.prog F gl K)(hX:∀f a,K.ext f a=none)(p:LProg)(hs:SmallP p):PureC Tryz.prog F q5n [.agg p.cells] (.int .i64 (q2I p)):=by
  refine zP z3h ?_
  have e1:=x4J hP p.types (fun x hx=>by have:=hs.parts x hx;omega) (by have:=hs.nt;omega)
  have hnf:=hs.nf
  by_cases hc3:q8s p.types.list=0
  · refine zA1f @hc3 q8h e1 ?_
    refine Y2H (fun i:Nat=>[(1,.ptr 0 0),(4,.int .i64 i)]) (fun i g=>i≤p.funcs.list.length∧g.get 0=some (.cells q0o p.cells)∧(p.funcs.list.take i).all (q1b p)=true) (fun i=>p.funcs.list.length-i) (0) ?_ ?_ ?_
    focus(repeat' first|exact q0h|refine q0e (by simp) ?_)
    ·exact⟨Y0E _,by simp,rfl⟩
    rintro i g ⟨hi,hg0,hall⟩
    dsimp only[q0o]at hg0
    refine zR0f @hg0 ?_
    refine Y2w hP rfl (fun hc=>Y2s ?_) (fun hc=>Y2t ?_)
    · simp at hc
      obtain⟨f,hf⟩:=q0b hc
      have hav:=q0j (e:=LFunc.cells) (show 0<p.funcs.list.length by omega)
      have hst:=q1U (p:=q1b p) hf
      have e2:=z9M hP hX p f (hs.funcs f (Y0N hf)) hs.parts
      dsimp only[q0a]
      refine zA0 ?_
      refine zEf (zc @hg0 (zc @hav (zc @hf (zc @z1k @z1r)))) (tl 70 [.agg p.cells,.agg f.cells] (.bool (q1b p f)) (e2) t0) ?_
      cases hm:q1b p f with
      | false=>
        refine zA0f @hm ?_
        rw[q2I,Y0e hc3,Y0c (by rw[q3l hf hm];decide)]
      | true=>
        refine zA0f @hm ?_
        refine⟨i+1,by omega,trivial,?_,by omega,by simpa using hg0,by rw[hst,hall,hm];rfl⟩
        exact zLf (w64s (show i<9000000000000000000 by omega))
    · simp at hc
      rw[Y2Q hc]at hall
      dsimp only[q0a]
      repeat' first|refine zA0f @hg0 ?_|refine zSf @hg0 (fun hb=> ?_) (fun hb=> ?_)|(refine Y2w hP rfl (fun hc=> ?_) (fun hc=> ?_)<;>simp at hc)
      all_goals (simp at hb;rw[q2I,Y0e hc3,Y0e hall])
      all_goals first|(rw[Y0e (by omega)];done)|(rw[Y0c (by omega)];done)
  · refine zA1f @hc3 q8h e1 ?_
    rw[q2I,Y0c hc3]
def q7S(p:LProg)(f:Int):Int:=if q2I p=0∧(f<0∨(p.funcs.list.length:Int)≤f)then 2 else q2I p
theorem q1X{p:LProg}{f:LFunc}(h:q1b p f=true):0≤f.sig∧f.sig<p.types.list.length∧q9u p f=3∧1≤f.blocks.list.length∧f.blocks.list.length≤16∧q1o f.blocks.list≤128:=by
 simp only[q1b,Y1X,Y2q,q3o,Y2l,Y3s,Y3t,Y2h]at h
 obtain⟨⟨a1,a2,a3,a4,a5,a6⟩,_⟩:=h
 exact⟨by omega,by omega,a3,by omega,by omega,by omega⟩
theorem q3k{p:LProg}(h:q2I p=0):q8s p.types.list=0∧(∀f∈p.funcs.list,q1b p f=true)∧1≤p.funcs.list.length∧p.funcs.list.length≤8:=by
 unfold q2I at h
 split at h
 ·rename_i h1
  split at h
  ·rename_i h2
   split at h
   ·cases h
   ·exact⟨h1,Y0G.1 h2,by omega,by omega⟩
  ·cases h
 ·rename_i h1;exact absurd h h1
theorem asked6_ok{p:LProg}{f:Int}(h:q7S p f=0):q2I p=0∧0≤f∧f<p.funcs.list.length:=by
 unfold q7S at h
 split at h
 ·cases h
 ·rename_i h1;exact⟨h,by omega,by omega⟩
def in27(l:List Int)(n:Int):Bool:=l.any fun x=>decide (x=n)
def q6N(a b:List Int):Bool:=decide (a=b)
theorem z0P{α:Type}{a b:List α}{i:Nat}{x y:α}(hx:a[i]? =some x)(hy:b[i]? =some y)(he:a.take i=b.take i)(h:x=y):a.take (i+1)=b.take (i+1):=by
 obtain⟨h1,rfl⟩:=Y0m.1 hx
 obtain⟨h2,rfl⟩:=Y0m.1 hy
 rw[Y1B h1,Y1B h2,he,h]
theorem q7J(hP:POk Tryz.prog F gl K)(a b:Sl Int)(hlen:a.list.length<1000000):PureC Tryz.prog F q3P [a.av cI,b.av cI] (.bool (q6N a.list b.list)):=by
 refine zP z0u ?_
 by_cases hl:a.list.length=b.list.length
 ·refine zA0f @hl ?_
  refine Y2H (fun i:Nat=>[(0,a.av cI),(1,b.av cI),(4,.bool false),(5,.int .i64 i)]) (fun i _=>i≤a.list.length∧a.list.take i=b.list.take i) (fun i=>a.list.length-i) (0) ?_ ?_ ?_
  focus(repeat' first|exact q0h|refine q0e (by simp) ?_)
  ·simp
  rintro i g ⟨hi,hall⟩
  refine zR0 ?_
  refine Y2w hP rfl (fun hc=>Y2s ?_) (fun hc=>Y2t ?_)
  ·simp at hc
   obtain⟨x,hx⟩:=q0b hc
   obtain⟨y,hy⟩:=q0b (show i<b.list.length by omega)
   have hav:=q0j (e:=cI) (show 0<a.list.length by omega)
   have hbv:=q0j (e:=cI) (show 0<b.list.length by omega)
   dsimp only[q0a]
   repeat' first|refine Y2v ?_|refine Y2x ?_|refine Y2s ?_|(refine Y2W hP (by simp[hx,hy,hav,hbv]<;>rfl) ?_;dsimp only[goK])|(refine Y2L hP [] (fun e he=>by cases he) (by kernel_rfl) (by simp[hx,hy,hav,hbv]<;>rfl) ?_;dsimp only)|simp only[q0a,q0c,q0d,↓reduceIte,Nat.reduceEqDiff,reduceCtorEq]|(refine Y2w hP rfl (fun hc=> ?_) (fun hc=> ?_)<;>simp at hc)|(refine Y2u ⟨.inr rfl,_,_,rfl,rfl,?_⟩;dsimp only[q0q])
   ·rw[q6N,Y2F]
    intro e
    rw[e,hy]at hx
    exact hc (Y1Y hx).symm
   ·refine⟨i+1,by omega,trivial,?_,by omega,z0P hx hy hall hc⟩
    exact zLf (zc @hav (zc @hbv (w64s (show i<9000000000000000000 by omega))))
  ·simp at hc
   dsimp only[q0a]
   rw[Y2Q hc,Y2Q (by omega)]at hall
   refine zA0 ?_
   rw[q6N,Y2G hall]
 ·repeat' first|refine zA0f @hl ?_|(refine Y2w hP rfl (fun hc=> ?_) (fun hc=> ?_)<;>simp at hc)
  ·rw[q6N,Y2F (fun e=>hl (by rw[e]))]
  ·exfalso;omega
def q9b(x y:LIns):Bool:=decide (x.op=y.op)&&(decide (x.type=y.type)&&(decide (x.a=y.a)&&(decide (x.b=y.b)&&(decide (x.n=y.n)&&(q6N x.args.list y.args.list&&q6N x.frm.list y.frm.list)))))
def q7c{α:Type}(p:α→α→Bool):List α→List α→Bool
 |[],[]=>true
 |x::l,y::k=>p x y&&q7c p l k
 |_,_=>false
theorem q8v{α:Type}{p:α→α→Bool}:∀{l k:List α},l.length=k.length→((∀(i:Nat) (x y:α),l[i]? =some x→k[i]? =some y→p x y=true)↔q7c p l k=true)
  |[],[],_=>by simp[q7c]
  | x ::l,y::k,h=>by
    simp only[q7c,Y1X]
    rw[←q8v (l:=l) (k:=k) (by simpa using h)]
    constructor
    ·intro hh;exact⟨hh 0 x y rfl rfl,fun i a b ha hb=>hh (i+1) a b ha hb⟩
    · rintro⟨h1,h2⟩ i a b ha hb
      cases i with
      |zero=>simp at ha hb;subst ha hb;exact h1
      |succ i=>exact h2 i a b ha hb
  |[],_::_,h=>by simp at h
  |_::_,[],h=>by simp at h
theorem z0F{α:Type}{p:α→α→Bool}:∀{l k:List α},l.length≠k.length→q7c p l k=false
 |[],[],h=>absurd rfl h
 |x::l,y::k,h=>by simp only[q7c];rw[z0F (l:=l) (k:=k) (by simpa using h),Bool.and_false]
 |[],_::_,_=>rfl
 |_::_,[],_=>rfl
theorem x1J (hP:POk Tryz.prog F gl K) (hX:∀f a,K.ext f a=none) (a b:Sl LIns) (hlen:a.list.length<1000000) (ha:∀x∈a.list,x.args.list.length<1000000∧x.frm.list.length<1000000):PureC Tryz.prog F q1Z [a.av LIns.cells,b.av LIns.cells] (.bool (q7c q9b a.list b.list)):=by
  refine zP z1m ?_
  by_cases hl:a.list.length=b.list.length
  · refine zA0f @hl ?_
    refine Y2H (fun i:Nat=>[(0,a.av LIns.cells),(1,b.av LIns.cells),(4,.bool false),(5,.int .i64 i)]) (fun i _=>i≤a.list.length∧∀(j:Nat) (x y:LIns),j<i→a.list[j]? =some x→b.list[j]? =some y→q9b x y=true) (fun i=>a.list.length-i) (0) ?_ ?_ ?_
    focus(repeat' first|exact q0h|refine q0e (by simp) ?_)
    ·exact⟨Y0E _,fun j x y hj=>absurd hj (Y2K _)⟩
    rintro i g ⟨hi,hall⟩
    refine zR0 ?_
    refine Y2w hP rfl (fun hc=>Y2s ?_) (fun hc=>Y2t ?_)
    · simp at hc
      obtain⟨x,hx⟩:=q0b hc
      obtain⟨y,hy⟩:=q0b (show i<b.list.length by omega)
      have hi2:=hc
      have hav:=q0j (e:=LIns.cells) (show 0<a.list.length by omega)
      have hbv:=q0j (e:=LIns.cells) (show 0<b.list.length by omega)
      obtain⟨hx1,hx2⟩:=ha x (Y0N hx)
      have e1:=q7J hP x.args y.args hx1
      have e2:=q7J hP x.frm y.frm hx2
      have bad:q9b x y=false→AV.bool false= .bool (q7c q9b a.list b.list):=fun h=>by
        cases hs:q7c q9b a.list b.list with
        |false=>rfl
        |true=>have:=(q8v hl).2 hs i x y hx hy;rw[h]at this;cases this
      dsimp only[q0a]
      refine zA0 ?_
      refine zHf (zc @hx (zc @hy (zc @hav @hbv))) t0 (zw [0,0,3,7,0,0,48,112,0,0,783,2047]) ?_
      refine Y2U (fun k=>k.get g.nx=some (.cells q1e x.cells)∧k.get (g.nx+1)=some (.cells q1e y.cells)) ⟨by simp,by simp⟩ fun k hk=> ?_
      obtain⟨k1,k2⟩:=hk
      dsimp only[q1e]at k1 k2
      repeat' first|refine zA2f (zc @k1 @k2) q2z e1 q2z e2 ?_|refine zSf (zc @k1 @k2) (fun hb=> ?_) (fun hb=> ?_)|(refine Y2w hP rfl (fun hc=> ?_) (fun hc=> ?_)<;>simp at hc)
      all_goals clear e1 e2
      all_goals first
        |(exact bad (by clear hall bad;simp_all[q9b]))
        | (have hs:q9b x y=true:=by clear hall bad;simp_all[q9b]
           refine⟨i+1,by omega,trivial,?_,by omega,fun j u v hj hu hv=> ?_⟩
           ·repeat' first|exact q0h|refine q0e (by simp[hav,hbv,w64s (show i<9000000000000000000 by omega)]) ?_
           · by_cases h:j=i
             ·subst h;rw[hx]at hu;rw[hy]at hv;cases hu;cases hv;exact hs
             ·exact hall j u v (by omega) hu hv)
    · simp at hc
      dsimp only[q0a]
      refine zA0 ?_
      rw[(q8v hl).1 fun j x y hx hy=>hall j x y (by have:=(Y0m.1 hx).1;omega) hx hy]
  · repeat' first|refine zA0f @hl ?_|(refine Y2w hP rfl (fun hc=> ?_) (fun hc=> ?_)<;>simp at hc)
    ·rw[z0F hl]
    ·exfalso;omega
def q7f(x y:LEnd):Bool:=decide (x.kind=y.kind)&&(decide (x.a=y.a)&&(decide (x.to=y.to)&&decide (x.els=y.els)))
theorem neq_end(hE:K.eqT q7O=true)(x y:LEnd):q0B (Ctx.of Tryz.prog gl K) .neq q7O (.agg x.cells) (.agg y.cells)=some (.bool (!q7f x y)):=by
 have h1:(Ctx.of Tryz.prog gl K).eqT q7O=true:=hE
 show(bif q6p (Ctx.of Tryz.prog gl K) q7O (.agg x.cells) (.agg y.cells)then(match eqA (Ctx.of Tryz.prog gl K) 100 q7O (.agg x.cells) (.agg y.cells)with|some b=>some (AV.bool (!b))|none=>none)else none)=_
 have h2:q6p (Ctx.of Tryz.prog gl K) q7O (.agg x.cells) (.agg y.cells)=true:=h1
 have h3:eqA (Ctx.of Tryz.prog gl K) 100 q7O (.agg x.cells) (.agg y.cells)=some (q7f x y):=by
  dsimp only[q7O]at h1⊢
  by_cases e1:x.kind=y.kind<;>by_cases e2:x.a=y.a<;>by_cases e3:x.to=y.to<;>by_cases e4:x.els=y.els<;>
   simp[eqA,z0x,eqFields,h1,q7f,e1,e2,e3,e4,q2s,q7R,LEnd.cells]
 rw[h2,h3];rfl
def q3D(x y:LBlock):Bool:=q7f x.ed y.ed&&q7c q9b x.ins.list y.ins.list
set_option maxHeartbeats 2000000 in
theorem z7D (hP:POk Tryz.prog F gl K)(hX:∀f a,K.ext f a=none)(hE:K.eqT q7O=true)(a b:Sl LBlock)(hlen:a.list.length<1000000)(ha:∀x∈a.list,x.ins.list.length<1000000∧∀y∈x.ins.list,y.args.list.length<1000000∧y.frm.list.length<1000000):PureC Tryz.prog F q1H [a.av LBlock.cells,b.av LBlock.cells] (.bool (q7c q3D a.list b.list)):=by
  refine zP q9p ?_
  by_cases hl:a.list.length=b.list.length
  · refine zA0f @hl ?_
    refine Y2H (fun i:Nat=>[(0,a.av LBlock.cells),(1,b.av LBlock.cells),(4,.bool false),(5,.int .i64 i)]) (fun i _=>i≤a.list.length∧∀(j:Nat) (x y:LBlock),j<i→a.list[j]? =some x→b.list[j]? =some y→q3D x y=true) (fun i=>a.list.length-i) (0) ?_ ?_ ?_
    focus(repeat' first|exact q0h|refine q0e (by simp) ?_)
    ·exact⟨Y0E _,fun j x y hj=>absurd hj (Y2K _)⟩
    rintro i g ⟨hi,hall⟩
    refine zR0 ?_
    refine Y2w hP rfl (fun hc=>Y2s ?_) (fun hc=>Y2t ?_)
    · simp at hc
      obtain⟨x,hx⟩:=q0b hc
      obtain⟨y,hy⟩:=q0b (show i<b.list.length by omega)
      have hi2:=hc
      have hav:=q0j (e:=LBlock.cells) (show 0<a.list.length by omega)
      have hbv:=q0j (e:=LBlock.cells) (show 0<b.list.length by omega)
      obtain⟨hx1,hx2⟩:=ha x (Y0N hx)
      have e1:=x1J hP hX x.ins y.ins hx1 hx2
      have hq2:=fun T=>neq_end (gl:=gl) (K:=K.tell T) hE x.ed y.ed
      dsimp only[q7O,LEnd.cells]at hq2
      have bad:q3D x y=false→AV.bool false= .bool (q7c q3D a.list b.list):=fun h=>by
        cases hs:q7c q3D a.list b.list with
        |false=>rfl
        |true=>have:=(q8v hl).2 hs i x y hx hy;rw[h]at this;cases this
      dsimp only[q0a]
      refine zA0 ?_
      first
        | (skip
           refine Y3c hP [(q1Z,[x.ins.av LIns.cells,y.ins.av LIns.cells],.bool (q7c q9b x.ins.list y.ins.list))] (fun e he=>by rcases Y2k.1 he with rfl|he;exact e1;cases he) (by kernel_rfl) (by simp[hX,hx,hy,hav,hbv,hq2,q1Z,q6Z,q7b]<;>rfl) ?_
           repeat' (refine q5L (fun hb=> ?_) (fun hb=> ?_)<;>(try simp only[Y3e,Y1k,Y3f]at hb)<;>refine z6v (by simp[hb,hX,hx,hy,hav,hbv,hq2,q1Z,q6Z,q7b]<;>rfl) ?_)
           all_goals dsimp only[okQ,q0a])
      · cases hm:q7c q9b x.ins.list y.ins.list with
        | false=>
          refine zA0f (zc @hm @hb) ?_
          all_goals exact bad (by simp[q3D,hm])
        | true=>
          refine zA0f (zc @hm @hb) ?_
          refine⟨i+1,by omega,trivial,?_,by omega,fun j u v hj hu hv=> ?_⟩
          ·exact zLf (zc @hav (zc @hbv (w64s (show i<9000000000000000000 by omega))))
          · by_cases h:j=i
            ·subst h;rw[hx]at hu;rw[hy]at hv;cases hu;cases hv;simp_all[q3D]
            ·exact hall j u v (by omega) hu hv
      · refine zA0f @hb ?_
        all_goals exact bad (by simp_all[q3D])
    · simp at hc
      dsimp only[q0a]
      refine zA0 ?_
      rw[(q8v hl).1 fun j x y hx hy=>hall j x y (by have:=(Y0m.1 hx).1;omega) hx hy]
  · repeat' first|refine zA0f @hl ?_|(refine Y2w hP rfl (fun hc=> ?_) (fun hc=> ?_)<;>simp at hc)
    ·rw[z0F hl]
    ·exfalso;omega
def q4T(x y:LType):Bool:=decide (x.kind=y.kind)&&(decide (x.elem=y.elem)&&(decide (x.many=y.many)&&q6N x.parts.list y.parts.list))
theorem bad_of{α:Type}{p:α→α→Bool}{a b:List α}(hl:a.length=b.length){i:Nat}{x y:α}(hx:a[i]? =some x)(hy:b[i]? =some y)(h:p x y=false):AV.bool false= .bool (q7c p a b):=by
 cases hs:q7c p a b with
 |false=>rfl
 |true=>have:=(q8v hl).2 hs i x y hx hy;rw[h]at this;cases this
theorem x5x{α:Type}{p:α→α→Bool}{a b:List α}{i:Nat}{x y:α}(hx:a[i]? =some x)(hy:b[i]? =some y)(hall:∀(j:Nat) (x y:α),j<i→a[j]? =some x→b[j]? =some y→p x y=true)(h:p x y=true):
  ∀(j:Nat) (x y:α),j<i+1→a[j]? =some x→b[j]? =some y→p x y=true:=fun j u v hj hu hv=>by
 by_cases e:j=i
 ·subst e;rw[hx]at hu;rw[hy]at hv;cases hu;cases hv;exact h
 ·exact hall j u v (by omega) hu hv
theorem x7p (hP :POk Tryz.prog F gl K) (hX:∀f a,K.ext f a=none) (a b:Sl LType) (hlen:a.list.length<1000000) (ha:∀x∈a.list,x.parts.list.length<1000000):PureC Tryz.prog F q6f [a.av LType.cells,b.av LType.cells] (.bool (q7c q4T a.list b.list)):=by
  refine zP z4z ?_
  by_cases hl:a.list.length=b.list.length
  · refine zA0f @hl ?_
    refine Y2H (fun i:Nat=>[(0,a.av LType.cells),(1,b.av LType.cells),(4,.bool false),(5,.int .i64 i)]) (fun i _=>i≤a.list.length∧∀(j:Nat) (x y:LType),j<i→a.list[j]? =some x→b.list[j]? =some y→q4T x y=true) (fun i=>a.list.length-i) (0) ?_ ?_ ?_
    focus(repeat' first|exact q0h|refine q0e (by simp) ?_)
    ·exact⟨Y0E _,fun j x y hj=>absurd hj (Y2K _)⟩
    rintro i g ⟨hi,hall⟩
    refine zR0 ?_
    refine Y2w hP rfl (fun hc=>Y2s ?_) (fun hc=>Y2t ?_)
    · simp at hc
      obtain⟨x,hx⟩:=q0b hc
      obtain⟨y,hy⟩:=q0b (show i<b.list.length by omega)
      have hi2:=hc
      have hav:=q0j (e:=LType.cells) (show 0<a.list.length by omega)
      have hbv:=q0j (e:=LType.cells) (show 0<b.list.length by omega)
      have hx1:=ha x (Y0N hx)
      have bad:=bad_of (p:=q4T) hl hx hy
      dsimp only[q0a]
      refine zR0 ?_
      first
        | (skip
           refine Y3c hP [] (fun e he=>by cases he) (by kernel_rfl) (by simp[hX,hx,hy,hav,hbv]<;>rfl) ?_
           repeat' (refine q5L (fun hb=> ?_) (fun hb=> ?_)<;>(try simp only[Y3e,Y1k,Y3f]at hb)<;>refine z6v (by simp[hb,hX,hx,hy,hav,hbv]<;>rfl) ?_)
           all_goals dsimp only[okQ,q0a])
      · repeat' first|refine zA0 ?_|(refine Y2w hP rfl (fun hc=> ?_) (fun hc=> ?_)<;>simp at hc)
        ·exact bad (by simp_all[q4T,q6N];intro e;simp_all)
        refine Y2H (fun j:Nat=>[(0,a.av LType.cells),(1,b.av LType.cells),(4,.bool false),(5,.int .i64 i),(6,.int .i64 j)]) (fun j _=>j≤x.parts.list.length∧x.parts.list.take j=y.parts.list.take j) (fun j=>x.parts.list.length-j) (0) ?_ ?_ ?_
        focus(repeat' first|exact q0h|refine q0e (by simp[hav,hbv]) ?_)
        ·simp
        rintro j g ⟨hj,hall2⟩
        refine zR0f (zc @hx @hav) ?_
        refine Y2w hP rfl (fun hc=>Y2s ?_) (fun hc=>Y2t ?_)
        · simp at hc
          obtain⟨u,hu⟩:=q0b hc
          obtain⟨v,hv⟩:=q0b (show j<y.parts.list.length by omega)
          have hpx:=q0j (e:=cI) (show 0<x.parts.list.length by omega)
          have hpy:=q0j (e:=cI) (show 0<y.parts.list.length by omega)
          dsimp only[q0a]
          refine zR0 ?_
          refine zEf (zc @hx (zc @hy (zc @hav (zc @hbv (zc @hu (zc @hv (zc @hpx @hpy))))))) t0 ?_
          repeat' first|refine zA0 ?_|(refine Y2w hP rfl (fun hc=> ?_) (fun hc=> ?_)<;>simp at hc)
          · exact bad (by
              cases hs:q4T x y with
              |false=>rfl
              | true=>
                simp[q4T,q6N]at hs
                rw[hs.2.2.2,hv]at hu
                exact absurd (Y1Y hu).symm hc)
          · refine⟨j+1,by omega,trivial,?_,by omega,z0P hu hv hall2 hc⟩
            exact zLf (zc @hav (zc @hbv (w64s (show j<9000000000000000000 by omega))))
        · simp at hc
          dsimp only[q0a]
          refine zA0 ?_
          rw[Y2Q hc,Y2Q (by omega)]at hall2
          refine⟨i+1,by omega,trivial,?_,by omega,x5x hx hy hall (by simp_all[q4T,q6N])⟩
          exact zLf (zc @hav (zc @hbv (w64s (show i<9000000000000000000 by omega))))
      all_goals
        repeat' first|refine zA0 ?_|fail
      all_goals exact bad (by simp_all[q4T])
    · simp at hc
      dsimp only[q0a]
      refine zA0 ?_
      rw[(q8v hl).1 fun j x y hx hy=>hall j x y (by have:=(Y0m.1 hx).1;omega) hx hy]
  · repeat' first|refine zA0f @hl ?_|(refine Y2w hP rfl (fun hc=> ?_) (fun hc=> ?_)<;>simp at hc)
    ·rw[z0F hl]
    ·exfalso;omega
def z6t(x y:LFunc):Bool:=decide (x.sig=y.sig)&&q7c q3D x.blocks.list y.blocks.list
def x0v(p q:LProg):Bool:=q7c q4T p.types.list q.types.list&&q7c z6t p.funcs.list q.funcs.list
theorem x1d{x:LBlock}:∀{l:List LBlock},x∈l→(x.ins.list.length:Int)≤q1o l
  |[],h=>by cases h
  | a::l,h=>by
    have h1:=q1r l
    rcases Y2k.1 h with rfl|h
    ·simp only[q1o];omega
    ·have:=x1d h;simp only[q1o];omega
theorem SmallF.blk{f:LFunc}(h:SmallF f):f.blocks.list.length<1000000∧∀x∈f.blocks.list,x.ins.list.length<1000000∧∀y∈x.ins.list,y.args.list.length<1000000∧y.frm.list.length<1000000:=by
 refine⟨by have:=h.nb;omega,fun x hx=>⟨?_,fun y hy=> ?_⟩⟩
 ·have h1:=h.many
  have:=x1d hx
  omega
 ·have h1:=h.args x hx y hy
  have h2:=h.frm x hx y hy
  omega
set_option maxHeartbeats 1000000 in
theorem x7o(hP:POk Tryz.prog F gl K)(hX:∀f a,K.ext f a=none)(hE:K.eqT q7O=true)(p q:LProg)(hs:SmallP p):PureC Tryz.prog F q6b [.agg p.cells,.agg q.cells] (.bool (x0v p q)):=by
  refine zP z4u ?_
  have e1:=x7p hP hX p.types q.types (by have:=hs.nt;omega) (fun x hx=>by have:=hs.parts x hx;omega)
  by_cases hl:p.funcs.list.length=q.funcs.list.length
  · cases ht:q7c q4T p.types.list q.types.list with
    | false=>
      rw[ht]at e1
      refine zA1f @hl q6j e1 ?_
      all_goals simp[x0v,ht]
    |true=>
    rw[ht]at e1
    refine zA1f @hl q6j e1 ?_
    refine Y2H (fun i:Nat=>[(2,.ptr 0 0),(3,.ptr 1 0),(4,.bool false),(5,.int .i64 i)]) (fun i g=>i≤p.funcs.list.length∧g.get 0=some (.cells q0o p.cells)∧g.get 1=some (.cells q0o q.cells)∧∀(j:Nat) (x y:LFunc),j<i→p.funcs.list[j]? =some x→q.funcs.list[j]? =some y→z6t x y=true) (fun i=>p.funcs.list.length-i) (0) ?_ ?_ ?_
    focus(repeat' first|exact q0h|refine q0e (by simp) ?_)
    ·exact⟨Y0E _,by simp,by simp,fun j x y hj=>absurd hj (Y2K _)⟩
    rintro i g ⟨hi,hg0,hg1,hall⟩
    dsimp only[q0o,LProg.cells]at hg0 hg1
    refine zR0f (zc @hg0 @hg1) ?_
    refine Y2w hP rfl (fun hc=>Y2s ?_) (fun hc=>Y2t ?_)
    · simp at hc
      obtain⟨x,hx⟩:=q0b hc
      obtain⟨y,hy⟩:=q0b (show i<q.funcs.list.length by omega)
      have hav:=q0j (e:=LFunc.cells) (show 0<p.funcs.list.length by omega)
      have hbv:=q0j (e:=LFunc.cells) (show 0<q.funcs.list.length by omega)
      have hnf:=hs.nf
      have hsf:=(hs.funcs x (Y0N hx)).blk
      have e2:=z7D hP hX hE x.blocks y.blocks hsf.1 hsf.2
      have bad:z6t x y=false→AV.bool false= .bool (x0v p q):=fun h=>by
        rw[x0v,ht,Y0g];exact bad_of hl hx hy h
      dsimp only[q0a]
      refine zR0 ?_
      first
        | (skip
           refine Y3c hP [(q1H,[x.blocks.av LBlock.cells,y.blocks.av LBlock.cells],.bool (q7c q3D x.blocks.list y.blocks.list))] (fun e he=>by rcases Y2k.1 he with rfl|he;exact e2;cases he) (by kernel_rfl) (by simp[hX,hg0,hg1,hx,hy,hav,hbv,q1H,q5y,q5A]<;>rfl) ?_
           repeat' (refine q5L (fun hb=> ?_) (fun hb=> ?_)<;>(try simp only[Y3e,Y1k,Y3f]at hb)<;>refine z6v (by simp[hb,hX,hg0,hg1,hx,hy,hav,hbv,q1H,q5y,q5A]<;>rfl) ?_)
           all_goals dsimp only[okQ,q0a])
      all_goals clear e1 e2
      all_goals
        repeat' first|refine zA0 ?_|(refine Y2w hP rfl (fun hc=> ?_) (fun hc=> ?_)<;>simp at hc)
      all_goals first
        |exact bad (by simp_all[z6t])
        | (refine⟨i+1,by omega,trivial,?_,by omega,by simpa using hg0,by simpa using hg1,x5x hx hy hall (by simp_all[z6t])⟩
           (repeat' first|exact q0h|refine q0e (by simp[hav,hbv,w64s (show i<9000000000000000000 by omega)]) ?_))
    · simp at hc
      dsimp only[q0a]
      refine zA0 ?_
      rw[x0v,ht,(q8v hl).1 fun j x y hx hy=>hall j x y (by have:=(Y0m.1 hx).1;omega) hx hy]
      rfl
  · repeat' first|refine zA1f @hl q6j e1 ?_|refine zSf @hl (fun hb=> ?_) (fun hb=> ?_)|(refine Y2w hP rfl (fun hc=> ?_) (fun hc=> ?_)<;>simp at hc)
    all_goals first|(exfalso;simp at hb;omega)|(simp_all[x0v,z0F];done)
end Go.Ax
noncomputable section
namespace Go.Ax
variable{C:Ctx}{h g:Hp}
def Agr(S:Nat→Prop)(h g:Hp):Prop:=∀r,S r→g.get r=h.get r
theorem Agr.refl{S:Nat→Prop}:Agr S h h:=fun _ _=>rfl
def RdF(S:Nat→Prop)(h:Hp)(k:Nat)(v u:AV):Prop:=∀g,Agr S h g→frzV k g v=some u
def RdL(S:Nat→Prop)(h:Hp)(k:Nat)(l m:List AV):Prop:=∀g,Agr S h g→mapO (frzV k g) l=some m
def RdR(S:Nat→Prop)(h:Hp)(k:Nat)(l m:List (List AV)):Prop:=∀g,Agr S h g→mapO (mapO (frzV k g)) l=some m
variable{S S':Nat→Prop}{k:Nat}
theorem RdF.now{v u:AV}(H:RdF S h k v u):frzV k h v=some u:=H h .refl
theorem RdF.mono{v u:AV}(H:RdF S h k v u)(hS:∀r,S r→S' r)(hg:Agr S h g):RdF S' g k v u:=fun g' hg'=>H g' fun r hr=>(hg' r (hS r hr)).trans (hg r hr)
theorem RdL.mono{v u:List AV}(H:RdL S h k v u)(hS:∀r,S r→S' r)(hg:Agr S h g):RdL S' g k v u:=fun g' hg'=>H g' fun r hr=>(hg' r (hS r hr)).trans (hg r hr)
theorem RdR.mono{v u:List (List AV)}(H:RdR S h k v u)(hS:∀r,S r→S' r)(hg:Agr S h g):RdR S' g k v u:=fun g' hg'=>H g' fun r hr=>(hg' r (hS r hr)).trans (hg r hr)
theorem RdL.nil:RdL S h k [] []:=fun _ _=>rfl
theorem RdL.cons{v u:AV}{l m:List AV}(H:RdF S h k v u)(J:RdL S h k l m):RdL S h k (v::l) (u::m):=fun g hg=>by
 simp only[mapO,H g hg,J g hg]
theorem RdR.nil:RdR S h k [] []:=fun _ _=>rfl
theorem x1b{α β:Type}{f:α→Option β}{x:α}{y:β}(hx:f x=some y):∀{l:List α} {m:List β},mapO f l=some m→mapO f (l++[x])=some (m++[y])
  |[],m,e=>by cases e;simp[mapO,hx]
  | a::l,m,e=>by
    unfold mapO at e
    split at e
    case h_2=>cases e
    rename_i b hb
    split at e
    case h_2=>cases e
    rename_i m' hm
    cases e
    simp[mapO,hb,x1b hx hm]
theorem x5b{α β:Type}{f:α→Option β}:∀{l:List α} {m:List β},mapO f l=some m→m.length=l.length
  |[],m,e=>by cases e;rfl
  | a::l,m,e=>by
    unfold mapO at e
    split at e
    case h_2=>cases e
    split at e
    case h_2=>cases e
    rename_i m' hm
    cases e
    simp[x5b hm]
theorem RdR.snoc{l m:List (List AV)}{a b:List AV}(H:RdR S h k l m)(J:RdL S h k a b):RdR S h k (l++[a]) (m++[b]):=fun g hg=>x1b (J g hg) (H g hg)
theorem RdR.len{l m:List (List AV)}(H:RdR S h k l m):m.length=l.length:=x5b (H h .refl)
theorem z_up{h:Hp}:h.z.up=h.up:=by unfold Hp.up;rfl
theorem up_z{h:Hp}:h.up.z=h.z:=by unfold Hp.up;rfl
theorem z_z{h:Hp}:h.z.z=h.z:=rfl
theorem new_z{h:Hp}{o:AObj}:(h.up.new o).z=(h.new o).z:=by unfold Hp.up;rfl
theorem put_z{h:Hp}{r:Nat}{o:AObj}:(h.up.put r o).z=(h.put r o).z:=by unfold Hp.up;rfl
theorem append_lo{t u:TypeId}{v x v':AV}{h':Hp}{nx lo lo':Nat}{m:Tr AObj}(ha:q0Z C t u v x ⟨nx,m,lo⟩=some (v',h')):∃h'',q0Z C t u v x ⟨nx,m,lo'⟩=some (v',h'')∧h''.z=h'.z:=by
  have src:∀es k x,q0N ⟨nx,m,lo'⟩ es k x=q0N ⟨nx,m,lo⟩ es k x:=fun _ _ _=>rfl
  have get:∀r,(⟨nx,m,lo'⟩:Hp).get r=(⟨nx,m,lo⟩:Hp).get r:=fun _=>rfl
  unfold q0Z at ha⊢
  simp only[src,get]
  split at ha
  case h_2=>cases ha
  split at ha
  ·cases ha
  ·cases ha
  split at ha
  ·cases ha
  obtain⟨hc,ha⟩:=q2p ha
  rw[hc,Y0V]
  split at ha
  case h_3=>cases ha
  · try dsimp only
    cases hb:Nat.beq _ 0 with
    |true=>rw[hb]at ha;cases ha;exact⟨_,rfl,rfl⟩
    | false=>
      rw[hb]at ha
      obtain⟨hc2,ha⟩:=q2p ha
      cases ha
      rw[hc2]
      exact⟨_,rfl,rfl⟩
  · rename_i r0 o0 len0 cap0 es0 ex0 _
    try dsimp only
    split at ha
    case h_2=>cases ha
    rename_i e' cs hg
    try rw[hg]
    try dsimp only
    obtain⟨hc2,ha⟩:=q2p ha
    rw[hc2,Y0V]
    cases hb:Nat.ble (Nat.add len0 _) cap0 with
    | true=>
      rw[hb]at ha
      obtain⟨hc3,ha⟩:=q2p ha
      cases ha
      rw[hc3]
      exact⟨_,rfl,rfl⟩
    | false =>
      rw[hb]at ha
      dsimp only[cond]at ha⊢
      split at ha
      ·cases ha
      rename_i hz
      try rw[hz]
      try dsimp only
      cases ex0 with
      |true=>cases ha;exact⟨_,rfl,rfl⟩
      | false=>
        dsimp only at ha⊢
        split at ha
        · rename_i hq
          try rw[hq]
          try dsimp only
          split at ha
          · rename_i hq2
            try rw[hq2]
            cases ha
            exact⟨_,rfl,rfl⟩
          ·cases ha
        ·cases ha
theorem x1z{t u:TypeId}{v x v':AV}{h':Hp}(ha:q0Z C t u v x h=some (v',h')):∃h'',q0Z C t u v x h.up=some (v',h'')∧h''.z=h'.z:=by
 obtain⟨nx,m,lo⟩:=h
 have:Hp.up ⟨nx,m,lo⟩=⟨nx,m,nx⟩:=by unfold Hp.up;rfl
 rw[this]
 exact append_lo ha
attribute [simp] z_up up_z z_z new_z put_z
theorem z5B {t u:TypeId}{v x v':AV}{h':Hp}(ha:q0Z C t u v x h=some (v',h')):(∀r,r<h.nx→(∀o n c e x,v≠ .sl r o n c e x)→h'.get r=h.get r)∧h.nx≤h'.nx∧(∀r o n c e x,v'= .sl r o n c e x→r=h.nx∨∃o n c e x,v= .sl r o n c e x):=by
  unfold q0Z at ha
  split at ha
  case h_2=>cases ha
  split at ha
  ·cases ha
  ·cases ha
  split at ha
  ·cases ha
  obtain⟨_,ha⟩:=q2p ha
  split at ha
  case h_3=>cases ha
  · cases hb:Nat.beq _ 0 with
    | true=>
      rw[hb]at ha;cases ha
      exact⟨fun _ _ _=>rfl,Y0u _,fun r o n c e x e'=>by cases e'⟩
    | false=>
      rw[hb]at ha
      obtain⟨_,ha⟩:=q2p ha
      cases ha
      exact⟨fun r hr _=>by rw[get_new,Y0c (by omega)],Y0A _,fun r o n c e x e'=>by cases e';exact .inl rfl⟩
  · rename_i r0 o0 len0 cap0 es0 ex0 _
    split at ha
    case h_2=>cases ha
    obtain⟨_,ha⟩:=q2p ha
    cases hb:Nat.ble _ cap0 with
    | true=>
      rw[hb]at ha
      obtain⟨_,ha⟩:=q2p ha
      cases ha
      refine⟨fun r hr hv=> ?_,Y0u _,fun r o n c e x e'=> ?_⟩
      ·rw[get_put,Y0c (fun e=>by subst e;exact hv _ _ _ _ _ rfl)]
      ·cases e';exact .inr ⟨_,_,_,_,_,rfl⟩
    | false =>
      rw[hb]at ha
      dsimp only[cond]at ha
      split at ha
      ·cases ha
      cases ex0 with
      | true=>
        cases ha
        exact⟨fun r hr _=>by rw[get_new,Y0c (by omega)],Y0A _,fun r o n c e x e'=>by cases e';exact .inl rfl⟩
      | false=>
        dsimp only at ha
        split at ha
        · split at ha
          · cases ha
            refine⟨fun r hr hv=> ?_,Y0A _,fun r o n c e x e'=>by cases e';exact .inl rfl⟩
            rw[get_new,Y0c (by rw[nx_put];omega),get_put,Y0c (fun e=>by subst e;exact hv _ _ _ _ _ rfl)]
          ·cases ha
        ·cases ha
def OwnD(k es:Nat)(eT:TypeId)(b:Nat)(h:Hp)(v:AV)(fz:List (List AV)):Prop:=
 ∃(S:Nat→Prop) (rows:List (List AV)),Own es eT b h v rows∧(∀c∈rows,c.length=es)∧(∀r,S r→b≤r∧r<h.nx)∧(∀r o n c e x,v= .sl r o n c e x→¬S r)∧RdR S h k rows fz
theorem OwnD.nil{es b:Nat}{eT:TypeId}:OwnD k es eT b h .nilsl []:=⟨fun _=>False,[],.nil,nofun,nofun,nofun,.nil⟩
theorem OwnD.push{es b:Nat}{t eT:TypeId}{v:AV}{fz:List (List AV)}{row frow:List AV}(ht:slT C t eT es=true)(H:OwnD k es eT b h v fz)(hw:Wid h g)(hrow:row.length=es)(hcell:row.all q1f=true)(hlen:fz.length<1000000)(hb:b≤h.nx)
  {S':Nat→Prop} (hS:∀r,S' r→h.nx≤r∧r<g.nx) (hr:RdL S' g k row frow):
  ∃v' h',q0Z C t t v (.sl g.nx 0 1 1 es true) (g.new (.cells eT row))=some (v',h')∧OwnD k es eT b h' v' (fz++[frow])∧WidB b g h'∧h'.nx=g.nx+2:=by
 obtain⟨S,rows,h1,h2,h3,h4,h5⟩:=H
 have hl:=h5.len
 obtain⟨v',h',q1,q2,q3,q4⟩:=(h1.wid hw).push ht h2 hrow hcell (by omega) (Y0C hb hw.nx)
 obtain⟨f1,f2,f3⟩:=z5B q1
 have nx1:(g.new (.cells eT row)).nx=g.nx+1:=nx_new
 have old:∀r,r<g.nx→(∀o n c e x,v≠ .sl r o n c e x)→h'.get r=g.get r:=fun r hr hv=>by
  rw[f1 r (by omega) hv,get_new,Y0c (by omega)]
 have vr:∀r o n c e x,v= .sl r o n c e x→r<h.nx:=fun r o n c e x hv=>by
  rcases h1 with⟨rfl,_⟩|⟨_,q,_,hq,rfl,_⟩
  ·cases hv
  ·cases hv;exact hq
 refine⟨v',h',q1,⟨fun r=>S r∨S' r,rows++[row],q2,fun c hc=> ?_,fun r hr=> ?_,fun r o n c e x hv=> ?_,?_⟩,q3,q4⟩
 ·rcases Y3o.1 hc with hc|hc
  ·exact h2 c hc
  ·rw[Y2d.1 hc];exact hrow
 ·have:=hw.nx
  rcases hr with hr|hr
  ·have:=h3 r hr;omega
  ·have:=hS r hr;omega
 ·have:=hw.nx
  rcases f3 r o n c e x hv with rfl|⟨o',n',c',e',x',hv'⟩
  ·rintro(hr|hr)
   ·have:=h3 _ hr;omega
   ·have:=hS _ hr;omega
  ·rintro(hr|hr)
   ·exact h4 _ _ _ _ _ _ hv' hr
   ·have:=hS _ hr;have:=vr _ _ _ _ _ _ hv';omega
 ·refine .snoc (h5.mono (fun r hr=>.inl hr) fun r hr=> ?_) (hr.mono (fun r hr=>.inr hr) fun r hr=> ?_)
  ·have h6:=h3 r hr
   have:=hw.nx
   rw[old r (by omega) (fun o n c e x hv=>h4 _ _ _ _ _ _ hv hr)]
   exact hw.get r h6.2
  ·have h6:=hS r hr
   exact old r h6.2 fun o n c e x hv=>by have:=vr _ _ _ _ _ _ hv;omega
theorem Own.agr{es b:Nat}{eT:TypeId}{v:AV}{rows:List (List AV)}(H:Own es eT b h v rows)(hn:h.nx≤g.nx)(hg:∀r,b≤r→r<h.nx→g.get r=h.get r):Own es eT b g v rows:=by
 rcases H with h1|⟨h1,r,h2,h3,h4,h5⟩
 ·exact .inl h1
 ·exact .inr ⟨h1,r,h2,by omega,h4,(hg r h2 h3).trans h5⟩
theorem OwnD.agr{es b:Nat}{eT:TypeId}{v:AV}{fz:List (List AV)}(H:OwnD k es eT b h v fz)(hn:h.nx≤g.nx)(hg:∀r,b≤r→r<h.nx→g.get r=h.get r):OwnD k es eT b g v fz:=by
 obtain⟨S,rows,h1,h2,h3,h4,h5⟩:=H
 exact⟨S,rows,h1.agr hn hg,h2,fun r hr=>⟨(h3 r hr).1,Y0D (h3 r hr).2 hn⟩,h4,h5.mono (fun _ h=>h) fun r hr=>hg r (h3 r hr).1 (h3 r hr).2⟩
theorem OwnD.put{es b r:Nat}{eT:TypeId}{v:AV}{fz:List (List AV)}(H:OwnD k es eT b h v fz)(hr:r<b)(o:AObj):OwnD k es eT b (h.put r o) v fz:=
 H.agr (Y0u _) fun q hq _=>by rw[get_put,Y0c (by omega)]
theorem OwnD.cell{es b:Nat}{eT:TypeId}{v:AV}{fz:List (List AV)}(H:OwnD k es eT b h v fz):q1f v=true∧cellsOf v=some [v]:=by
 obtain⟨S,rows,h1,_⟩:=H
 rcases h1 with⟨rfl,_⟩|⟨_,r,_,_,rfl,_⟩<;>exact⟨rfl,rfl⟩
theorem OwnD.cases{es b:Nat}{eT:TypeId}{v:AV}{fz:List (List AV)}(H:OwnD k es eT b h v fz):v= .nilsl∨∃r n,b≤r∧r<h.nx∧v= .sl r 0 n n es false:=by
 obtain⟨S,rows,h1,_⟩:=H
 rcases h1 with⟨rfl,_⟩|⟨_,r,h2,h3,rfl,_⟩
 ·exact .inl rfl
 ·exact .inr ⟨r,_,h2,h3,rfl⟩
theorem z1y{h g:Hp}(e:h.z=g.z)(r:Nat):h.get r=g.get r:=by
 show h.z.get r=g.z.get r
 rw[e]
theorem x8f{h g:Hp}(e:h.z=g.z):h.nx=g.nx:=by
 show h.z.nx=g.z.nx
 rw[e]
def islOf(l:List (List AV)):AV:=match l with|[]=>.nilsl|l=>.isl l
theorem OwnD.rd{es b:Nat}{eT:TypeId}{v:AV}{fz:List (List AV)}(H:OwnD k es eT b h v fz):∃S,(∀r,S r→b≤r∧r<h.nx)∧RdF S h (k+1) v (islOf fz):=by
  obtain⟨S,rows,h1,h2,h3,h4,h5⟩:=H
  rcases h1 with⟨rfl,rfl⟩|⟨hne,q,hq1,hq2,rfl,hg⟩
  · have:=h5.len
    obtain rfl:=Y1y (show fz.length=0 by simpa using this)
    exact⟨fun _=>False,nofun,fun g hg=>rfl⟩
  · refine⟨fun r=>S r∨r=q,fun r hr=> ?_,fun g' hg'=> ?_⟩
    · rcases hr with hr|rfl
      ·exact h3 r hr
      ·exact⟨hq1,hq2⟩
    · have own:Own es eT 0 {g' with nx:=q+1} (.sl q 0 rows.length rows.length es false) rows:=.inr ⟨hne,q,Y0E _,Y0B _,rfl,(hg' q (.inr rfl)).trans hg⟩
      have:=own.frz h2 (k:=k) (rows':=fz) (h5 _ fun r hr=>hg' r (.inl hr))
      have fr:∀(k:Nat) (v:AV),frzV k {g' with nx:=q+1} v=frzV k g' v:=by
        intro k
        induction k with
        |zero=>intro v;rfl
        | succ k ih=>
          intro v
          have e:(frzV k {g' with nx:=q+1})=frzV k g':=funext ih
          unfold frzV
          rw[e]
          rfl
      rw[fr]at this
      cases fz<;>exact this
theorem app_empty{es q:Nat}{t xt eT:TypeId}{x:AV}{rows fz:List (List AV)}{n:Nat}(ht:slT C t eT es=true)(hxt:z8s (C.ti xt)=true)(hq:h.get q=some (.cells eT []))(hqn:q<h.nx)(hl:lenA x=some n)(hn:rows.length=n)
    (hsrc:q0N h es n x=some rows.flatten) (hrows:∀c∈rows,c.length=es) (hcell:rows.flatten.all q1f=true) (hlen:n≤1000000) (hf:RdR S h k rows fz) (hS:∀r,S r→r<h.nx):
    ∃v' h',q0Z C t xt (.sl q 0 0 0 es true) x h=some (v',h')∧(∀r,r<h.nx→h'.get r=h.get r)∧h.nx≤h'.nx∧q1f v'=true∧∃p,(p=q∨h.nx≤p)∧p<h'.nx∧RdF (fun r=>S r∨r=p) h' (k+1) v' (.isl fz)∧(∃ex,v'= .sl p 0 n n es ex)∧h'.get p=some (.cells eT rows.flatten):=by
  unfold slT at ht
  split at ht
  case h_2=>cases ht
  rename_i e size isAgg zero zeroOk bytes comparable zv y hti hy
  simp only[Y1X,Y2h]at ht
  obtain⟨rfl,hys,hz,hby⟩:=ht
  have hnl:rows.flatten.length=n*es:=by rw[q5K hrows,hn]
  cases hx:C.ti xt with
  |none=>rw[hx]at hxt;cases hxt
  |some xi=>
  rw[hx]at hxt
  have hxi:z2r xi.desc=true:=hxt
  have hsrc':q0N h y.size n x=some rows.flatten:=by rw[hys];exact hsrc
  have b1:Nat.ble y.bytes 1000000=true:=Y1x hby
  have b2:Nat.beq rows.flatten.length (Nat.mul n y.size)=true:=by rw[hnl,hys];exact Y1o _
  have b3:Nat.beq es y.size=true:=by rw[hys];exact Y1o _
  have b4:Nat.ble (Nat.add 0 n) 1000000=true:=Y1x (by simp;omega)
  have hch:∀(rows:List (List AV)),(∀c∈rows,c.length=es)→chunks es rows.length rows.flatten=rows:=by
    intro rows
    induction rows with
    |nil=>intro _;rfl
    | cons c l ih=>
      intro hc
      have h1:=hc c Y0T
      show((c++l.flatten).take es)::chunks es l.length ((c++l.flatten).drop es)=_
      rw[List.take_left' h1,List.drop_left' h1,ih fun x hx=>hc x (Y0U _ hx)]
  by_cases h0:n=0
  · subst h0
    obtain rfl:=Y1y hn
    have hfz:fz= []:=Y1y (by have:=hf.len;simpa using this)
    subst hfz
    refine⟨.sl q 0 0 0 es true,h.put q (.cells e []),?_,fun r hr=> ?_,Y0u _,rfl,q,.inl rfl,hqn,fun g' hg'=> ?_,⟨_,rfl⟩,by rw[get_put,Y0e rfl];rfl⟩
    · unfold q0Z
      rw[hti,hx,hl]
      try dsimp only
      rw[hy,hxi]
      try dsimp only
      rw[hsrc']
      try dsimp only
      rw[hcell,b1,b2]
      try dsimp only
      rw[hq]
      try dsimp only
      rw[b3]
      simp[q1h,q3m]
    · rw[get_put]
      by_cases e:q=r
      ·subst e;rw[Y0e rfl,hq]
      ·rw[Y0c e]
    · have:g'.get q=some (.cells e []):=by rw[hg' q (.inr rfl),get_put,Y0e rfl]
      unfold frzV
      simp[this,chunks,mapO]
  · have b5:Nat.ble (Nat.add 0 n) 0=false:=by
      cases hc:Nat.ble (Nat.add 0 n) 0 with
      |false=>rfl
      |true=>have:=Y0J hc;simp at this;omega
    refine⟨.sl h.nx 0 n n es false,h.new (.cells e rows.flatten),?_,fun r hr=>by rw[get_new,Y0c (by omega)],Y0A _,rfl,h.nx,.inr (Y0u _),Y0B _,fun g' hg'=> ?_,⟨_,rfl⟩,by rw[get_new,Y0e rfl]⟩
    · unfold q0Z
      rw[hti,hx,hl]
      try dsimp only
      rw[hy,hxi]
      try dsimp only
      rw[hsrc']
      try dsimp only
      rw[hcell,b1,b2]
      try dsimp only
      rw[hq]
      try dsimp only
      rw[b3,b4,b5,hz]
      simp
    · have hg:g'.get h.nx=some (.cells e rows.flatten):=by rw[hg' h.nx (.inr rfl),get_new,Y0e rfl]
      have hr:mapO (mapO (frzV k g')) rows=some fz:=hf g' fun r hr=>by
        have:=hS r hr
        rw[hg' r (.inl hr),get_new,Y0c (by omega)]
      unfold frzV
      try dsimp only
      rw[hg]
      try dsimp only
      have h3:Nat.ble (Nat.add 0 (Nat.mul n es)) rows.flatten.length=true:=Y1x (by rw[hnl];simp)
      rw[h3,Y1Q,←hn,hch rows hrows,hr]
      rfl
end Go.Ax
set_option maxRecDepth 20000
noncomputable section
namespace Go.Ax
open Go.Proofs
attribute [local irreducible] TW TO CallsT PureC
variable{F:Nat→Option Obj}{gl:Nat→AV}{K:Knob}
def Sl.of{α:Type}:List α→Sl α
 |[]=>.nil
 |l=>.mk l
theorem Sl.of_list{α:Type}(l:List α):(Sl.of l).list=l:=by cases l<;>rfl
theorem z3H{α:Type}(e:α→List AV)(l:List α):islOf (l.map e)=(Sl.of l).av e:=by cases l<;>rfl
def z6n(x:LType):LType:={x with parts:=.mk x.parts.list}
theorem slt_types:slT (Ctx.of Tryz.prog gl K) z4J q6q 4=true:=by simp[slT]
theorem q6w{S:Nat→Prop}{h:Hp}{k:Nat}{q:IntKind}{n:Int}:RdF S h (k+1) (.int q n) (.int q n):=fun _ _=>rfl
theorem rdR_ints{S:Nat→Prop}{h:Hp}{k:Nat}(l:List Int):RdR S h (k+1) (l.map cI) (l.map cI):=fun _ _=>ints_frz l
theorem src_ints'{h:Hp}(x:Sl Int):q0N h 1 x.list.length (x.av cI)=some (x.list.map cI).flatten:=by have:=z9l (h:=h) x;simpa using this
theorem q7I{α β:Type}{f:α→β}{l:List α}{i:Nat}{x:α}(hx:l[i]? =some x):(l.take (i+1)).map f=(l.take i).map f++[f x]:=by
 obtain⟨h,rfl⟩:=Y0m.1 hx
 rw[Y1B h,Y3m];rfl
theorem z9C(x:Sl Int)(hx:x.list.length≤1000000)(h:Hp):∃v' h',q0Z (Ctx.of Tryz.prog gl K) q0m q0m (.sl h.nx 0 0 0 1 true) (x.av cI) (h.new (.cells q0x []))=some (v',h')∧Wid h h'∧q1f v'=true∧cellsOf v'=some [v']∧
  ∃p,h.nx≤p∧p<h'.nx∧RdF (fun r=>r=p) h' 2 v' (.isl (x.list.map cI)):=by
 obtain⟨v',h',h1,h2,h3,h4,p,h5,h6,h7,_⟩:=app_empty (q:=h.nx) (k:=1) (h:=h.new (.cells q0x [])) (x:=x.av cI) (rows:=x.list.map cI) (fz:=x.list.map cI) (n:=x.list.length) (S:=fun _=>False) (xt:=q0m) (q1a (gl:=gl) (K:=K)) q6S (by simp[get_new]) (by simp[nx_new]) (q2c x) (by simp) (src_ints' x) q1v z0L hx (rdR_ints _) nofun
 refine⟨v',h',h1,⟨by have:=nx_new (h:=h) (o:=.cells q0x []);omega,fun r hr=> ?_⟩,h4,?_,p,?_,h6,h7.mono (fun r hr=>hr.elim False.elim id) .refl⟩
 ·rw[h2 r (by rw[nx_new];omega),get_new,Y0c (by omega)]
 ·cases v'<;>first|rfl|cases h4
 ·have:=nx_new (h:=h) (o:=.cells q0x []);omega
theorem x7m(hP:POk Tryz.prog F gl K)(t:Sl LType)(hlen:t.list.length<1000000)(ht:∀x∈t.list,x.parts.list.length<1000000):PureC Tryz.prog F q6e [t.av LType.cells] ((Sl.of (t.list.map z6n)).av LType.cells):=by
 refine Y2z (O:=fun u g=>frzV 3 g u=some ((Sl.of (t.list.map z6n)).av LType.cells)) (k:=3) (by simp) ?_ (fun u g e=>e)
 refine Y2y hP q0f z4y rfl rfl ?_
 refine zA0 ?_
 refine Y2H (fun p:Nat×AV=>[(0,t.av LType.cells),(3,p.2),(4,.int .i64 p.1)]) (fun p g=>p.1≤t.list.length∧OwnD 2 4 q6q 0 g p.2 (((t.list.take p.1).map z6n).map LType.cells)) (fun p=>t.list.length-p.1) ((0,.nilsl)) ?_ ?_ ?_
 focus(repeat' first|exact q0h|refine q0e (by simp) ?_)
 ·exact⟨Y0E _,.nil⟩
 rintro⟨i,v⟩ g ⟨hi,hown⟩
 dsimp only at hi hown⊢
 refine zR0 ?_
 refine Y2w hP rfl (fun hc=>Y2s ?_) (fun hc=>Y2t ?_)
 ·simp at hc
  obtain⟨x,hx⟩:=q0b hc
  have hav:=q0j (e:=LType.cells) (show 0<t.list.length by omega)
  have hx1:=ht x (Y0N hx)
  dsimp only[q0a]
  refine Y2v ?_
  refine Y2x ?_
  refine zGf (zc @hx @hav) ?_
  refine Y2U (fun k=>k.get g.nx=some (.cells q6q x.cells)∧Wid g k∧k.nx=g.nx+1) ⟨by simp,((Y2M g).new _).put (by simp) _,by simp⟩ fun k hk=> ?_
  obtain⟨hk,hw,hn⟩:=hk
  dsimp only[q6q,LType.cells]at hk
  obtain⟨v1,k1,a1,a2,a3,a4,p,a5,a6,a7⟩:=z9C (gl:=gl) (K:=K) x.parts (by omega) k
  dsimp only[q0m,q0x]at a1
  have hk1:k1.get g.nx=_:=a2.at hk (by omega)
  have hne:¬k.nx=g.nx:=by omega
  refine zGf (zc @hk (zc @a1 (zc @hk1 (zc @a4 (zc @a3 @hne))))) ?_
  refine Y2U (fun m=>m.get g.nx=some (.cells q6q [.int .u8 x.kind,.int .i64 x.elem,.int .i64 x.many,v1])∧Wid g m∧RdF (fun r=>r=p) m 2 v1 (.isl (x.parts.list.map cI))∧p<m.nx) ⟨by simp[get_put],(hw.trans a2).put (Y0u _) _,a7.mono (fun _ h=>h) fun r hr=>by rw[get_put,Y0c (by omega)],by simpa using a6⟩ fun m hm=> ?_
  obtain⟨hm,hwm,a7',a6'⟩:=hm
  obtain⟨v',h',q1,q2,q3,q4⟩:=hown.push (t:=z4J) (g:=m) (row:=[.int .u8 x.kind,.int .i64 x.elem,.int .i64 x.many,v1]) (frow:=(z6n x).cells) (slt_types (gl:=gl) (K:=K)) hwm rfl (by simp[a3]) (by simp;omega) (Y0E _) (S':=fun r=>r=p) (by rintro r rfl;omega) (.cons q6w (.cons q6w (.cons q6w (.cons a7' .nil))))
  dsimp only[z4J,q6q]at q1 hm
  refine zA0f (zc @hm @q1) ?_
  refine⟨(i+1,v'),by dsimp only;omega,trivial,?_,by dsimp only;omega,?_⟩
  ·exact zLf (zc @hav (w64s (show i<9000000000000000000 by omega)))
  ·dsimp only;rw[q7I hx,Y3m];exact q2
 ·simp at hc
  dsimp only[q0a]
  rw[Y2Q hc]at hown
  obtain⟨S,_,hr⟩:=hown.rd
  refine zA0 ?_
  rw[←z3H];exact hr.now
end Go.Ax
