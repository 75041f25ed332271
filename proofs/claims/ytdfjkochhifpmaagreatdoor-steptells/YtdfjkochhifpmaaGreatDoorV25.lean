import Derived.Test.YtdfjkochhifpmaaGreatDoorV24
import Derived.Deep.Slices
set_option linter.unusedSimpArgs false
set_option linter.unusedVariables false
set_option maxRecDepth 20000
noncomputable section
namespace Go.Ax
open Go.Proofs
structure LSite where
 func:Int
 reg:Int
 type:Int
def LSite.cells(x:LSite):List AV:=[.int .i64 x.func,.int .i64 x.reg,.int .i64 x.type]
attribute [simp] LSite.cells
def slG{α:Type}(l:List α):Sl α:=match l with|[]=>.nil|l=>.mk l
theorem slG_list{α:Type}(l:List α):(slG l).list=l:=by cases l<;>rfl
def z0C(op:Int):Bool:=decide (op=11)||decide (op=12)
def z6p(p:LProg)(f:Nat)(reg:Int)(z:LIns):List LSite:=if z0C z.op=true then [⟨f,reg,q1V p.types.list z.type⟩]else []
def q2P(p:LProg)(f:Nat)(x:LFunc)(b k:Nat):List LSite:=((List.range k).map fun j:Nat=>z6p p f (q1q p x b j) (z2s x.blocks.list b j)).flatten
def q2D(p:LProg)(f:Nat)(x:LFunc)(n:Nat):List LSite:=((List.range n).map fun b=>q2P p f x b (insL x.blocks.list b).length).flatten
def q1F(p:LProg)(n:Nat):List LSite:=((List.range n).map fun f=>match p.funcs.list[f]? with|some x=>q2D p f x x.blocks.list.length|none=>[]).flatten
theorem z7b{p:LProg}{f:Nat}{x:LFunc}{b k:Nat}{y:LBlock}{z:LIns}(hy:x.blocks.list[b]? =some y)(hz:y.ins.list[k]? =some z):q2P p f x b (k+1)=q2P p f x b k++z6p p f (q1q p x b k) z:=by
 unfold q2P
 rw[Y3C]
 simp[q7F hy hz]
theorem z2A{p:LProg}{f:Nat}{x:LFunc}{b:Nat}{y:LBlock}(hy:x.blocks.list[b]? =some y):q2D p f x (b+1)=q2D p f x b++q2P p f x b y.ins.list.length:=by
 unfold q2D
 rw[Y3C]
 simp[insL,hy]
theorem z2z{p:LProg}{f:Nat}{x:LFunc}(hx:p.funcs.list[f]? =some x):q1F p (f+1)=q1F p f++q2D p f x x.blocks.list.length:=by
 unfold q1F
 rw[Y3C]
 simp[hx]
theorem site1_len{p:LProg}{f:Nat}{r:Int}{z:LIns}:(z6p p f r z).length≤1:=by unfold z6p;split<;>simp
theorem z1E{p:LProg}{f:Nat}{x:LFunc}{b:Nat}:∀k,(q2P p f x b k).length≤k
  |0=>by simp[q2P]
  | k+1=>by
    have h:q2P p f x b (k+1)=q2P p f x b k++z6p p f (q1q p x b k) (z2s x.blocks.list b k):=by unfold q2P;rw[Y3C];simp
    have:=z1E (p:=p) (f:=f) (x:=x) (b:=b) k
    have:=site1_len (p:=p) (f:=f) (r:=q1q p x b k) (z:=z2s x.blocks.list b k)
    rw[h,Y0X];omega
theorem z1D{p:LProg}{f:Nat}{x:LFunc}(h:∀b∈x.blocks.list,b.ins.list.length≤128):∀n,(q2D p f x n).length≤128*n
  |0=>by simp[q2D]
  | n +1=>by
    have:=z1D (p:=p) (f:=f) h n
    cases hy:x.blocks.list[n]? with
    | none=>
      have e:q2D p f x (n+1)=q2D p f x n:=by unfold q2D;rw[Y3C];simp[insL,hy,q2P]
      rw[e];omega
    | some y=>
      have:=h y (Y0N hy)
      have:=z1E (p:=p) (f:=f) (x:=x) (b:=n) y.ins.list.length
      rw[z2A hy,Y0X];omega
theorem z1C{p:LProg}(h:∀x∈p.funcs.list,x.blocks.list.length≤16∧∀b∈x.blocks.list,b.ins.list.length≤128):∀n,(q1F p n).length≤2048*n
  |0=>by simp[q1F]
  | n +1=>by
    have:=z1C h n
    cases hx:p.funcs.list[n]? with
    | none=>
      have e:q1F p (n+1)=q1F p n:=by unfold q1F;rw[Y3C];simp[hx]
      rw[e];omega
    | some x=>
      have h1:=h x (Y0N hx)
      have:=z1D (p:=p) (f:=n) h1.2 x.blocks.list.length
      rw[z2z hx,Y0X];omega
end Go.Ax
set_option maxRecDepth 20000
noncomputable section
namespace Go.Ax
open Go.Proofs
attribute [local irreducible] TW TO CallsT PureC
variable{F:Nat→Option Obj}{gl:Nat→AV}{K:Knob}{S S':Nat→Prop}
abbrev q3a:TypeId:=68
abbrev z2x:TypeId:=28
theorem x6v(hP:POk Tryz.prog F gl K)(op:Int):PureC Tryz.prog F z0V [.int .u8 op] (.bool (z0C op)):=by
 refine zP x2w ?_
 repeat' first|refine zA0 ?_|refine zS (fun hb=> ?_) (fun hb=> ?_)|fail
 all_goals simp_all[z0C]
theorem x0M:slT (Ctx.of Tryz.prog gl K) z2x q3a 3=true:=by kernel_rfl
theorem z9m{l:List LSite}:∀c∈l.map LSite.cells,c.length=3:=fun c hc=>by obtain⟨a,_,rfl⟩:=Y2S.1 hc;rfl
theorem Own.slG{h:Hp}{b:Nat}{v:AV}{l:List LSite}(ho:Own 3 q3a b h v (l.map LSite.cells)):frzV 4 h v=some ((Go.Ax.slG l).av LSite.cells):=by
 have:=ho.frz (k:=3) z9m (z1G (fun _=>rfl) l)
 rw[this]
 cases l<;>rfl
theorem w64i{n:Int}(h0:0≤n)(h1:n<100000):w64 (n+1)=n+1:=by
 obtain⟨m,rfl⟩:=Y3j h0
 exact w64s (by omega)
set_option maxHeartbeats 4000000 in
theorem x6b (hP:POk Tryz.prog F gl K)(hX:∀f a,K.ext f a=none)(p:LProg)(hs:SmallP p)(h6:q2I p=0):PureC Tryz.prog F z0U [.agg p.cells] ((Go.Ax.slG (q1F p p.funcs.list.length)).av LSite.cells):=by
  obtain⟨hc3,hmf,hn1,hn8⟩:=q3k h6
  have hfv:=q0j (e:=LFunc.cells) (show 0<p.funcs.list.length by omega)
  have hat:=fun f x (hf:p.funcs.list[f]? =some x)=>FnAt.of hs h6 hf
  have hlf:=fun h=>q3j (C:=Ctx.of Tryz.prog gl K) (t:=q9w) (h:=h) (q2c (e:=LFunc.cells) p.funcs) (q4B _)
  dsimp only[q9w]at hlf
  have hsm:∀x∈p.funcs.list,x.blocks.list.length≤16∧∀b∈x.blocks.list,b.ins.list.length≤128:=fun x hx=>by
    obtain⟨i,hi⟩:=Y3R hx
    obtain⟨q1,q2,q3⟩:=(hat i x hi).small
    exact⟨q1,q3⟩
  refine Y2z (O:=fun u g=>frzV 4 g u=some ((Go.Ax.slG (q1F p p.funcs.list.length)).av LSite.cells)) (k:=4) (by simp) ?_ (fun u g e=>e)
  refine Y2y hP q0f x2v rfl rfl ?_
  refine zR0f @hlf ?_
  refine Y2H (fun q:Nat×AV=>[(1,.ptr 0 0),(2,q.2),(11,p.funcs.av LFunc.cells),(12,.int .i64 p.funcs.list.length),(13,.int .i64 q.1)]) (fun q g=>q.1≤p.funcs.list.length∧g.get 0=some (.cells q0o p.cells)∧1≤g.nx∧Own 3 q3a 1 g q.2 ((q1F p q.1).map LSite.cells)) (fun q=>p.funcs.list.length-q.1) ((0,.nilsl)) ?_ ?_ ?_
  focus(repeat' first|exact q0h|refine q0e (by simp) ?_)
  ·exact⟨Y0E _,by simp,by simp,.nil⟩
  rintro⟨f,v⟩ g ⟨hi,hg,hgn,hown⟩
  dsimp only at hi hg hgn hown⊢
  refine zR0 ?_
  refine Y2w hP rfl (fun hc=>Y2s ?_) (fun hc=>Y2t ?_)
  · simp at hc
    obtain⟨x,hx⟩:=q0b hc
    have hfl:=Y2G hc
    have A:=hat f x hx
    obtain⟨hs1,hs2,hs3⟩:=A.small
    obtain⟨sg0,sg1⟩:=A.sig
    obtain⟨sg,hsg⟩:=Y3j sg0
    obtain⟨tz,htz⟩:=q0b (show sg<p.types.list.length by omega)
    have hsl:=Y2G (show sg<p.types.list.length by omega)
    have htv:=q0j (e:=LType.cells) (show 0<p.types.list.length by omega)
    have hpl:q0w p x=tz.parts.list.length:=by simp[q0w,hsg,htz]
    have hlb:=fun h=>q3j (C:=Ctx.of Tryz.prog gl K) (t:=q6L) (h:=h) (q2c (e:=LBlock.cells) x.blocks) (q4B _)
    have hlp:=fun h=>q3j (C:=Ctx.of Tryz.prog gl K) (t:=q0m) (h:=h) (q2c (e:=cI) tz.parts) (q4B _)
    dsimp only[q0m]at hlp
    dsimp only[q6L]at hlb
    have hgp:=hg
    dsimp only[q0o,LProg.cells]at hgp
    dsimp only[q0a]
    refine zR0f (zc @hgp (zc (show¬g.nx=0 by omega) (zc @hfv (zc @hfl (zc @hx (zc @hsg (zc @hsl (zc @htz (zc @htv (zc @hlb @hlp)))))))))) ?_
    have hn0:q1q p x 0 0=q0w p x:=by simp[q1q,q1o]
    have hF0:q1F p f=q1F p f++q2D p f x 0:=by simp[q2D]
    refine Y2U (fun m=>m.get 0=some (.cells q0o p.cells)∧1≤m.nx∧Own 3 q3a 1 m v ((q1F p f++q2D p f x 0).map LSite.cells)) ⟨by rw[get_put,Y0c (by omega),get_new,Y0c (by omega)];exact hg,by show 1≤g.nx+1;omega,by rw[←hF0];exact hown.wid (((Y2M g).new _).put (Y0u _) _)⟩ fun g2 hm=> ?_
    clear hg hgn hown hgp
    obtain⟨hg,hgn,hown⟩:=hm
    refine Y2H (fun q:Nat×AV=>[(1,.ptr 0 0),(2,q.2),(3,.int .i64 f),(5,.int .i64 (q1q p x q.1 0)),(11,p.funcs.av LFunc.cells),(12,.int .i64 p.funcs.list.length),(13,.int .i64 f),(27,x.blocks.av LBlock.cells),(28,.int .i64 x.blocks.list.length),(29,.int .i64 q.1)]) (fun q g=>q.1≤x.blocks.list.length∧g.get 0=some (.cells q0o p.cells)∧1≤g.nx∧Own 3 q3a 1 g q.2 ((q1F p f++q2D p f x q.1).map LSite.cells)) (fun q=>x.blocks.list.length-q.1) ((0,v)) ?_ ?_ ?_
    focus(repeat' first|exact q0h|refine q0e (by simp[hfv,hn0,hpl]) ?_)
    ·exact⟨Y0E _,hg,hgn,hown⟩
    clear hg hgn hown
    rintro⟨b,v⟩ g ⟨hbi,hg,hgn,hown⟩
    dsimp only at hbi hg hgn hown⊢
    refine zR0 ?_
    refine Y2w hP rfl (fun hc=>Y2s ?_) (fun hc=>Y2t ?_)
    · simp at hc
      obtain⟨y,hy⟩:=q0b hc
      have hyl:=Y2G hc
      have hbv:=q0j (e:=LBlock.cells) (show 0<x.blocks.list.length by omega)
      have hyn:=hs3 y (Y0N hy)
      have hli:=fun h=>q3j (C:=Ctx.of Tryz.prog gl K) (t:=z0y) (h:=h) (q2c (e:=LIns.cells) y.ins) (q4B _)
      dsimp only[z0y]at hli
      dsimp only[q0a]
      refine zR0f (zc @hbv (zc @hyl (zc @hy @hli))) ?_
      have hB0:q1F p f++q2D p f x b=q1F p f++(q2D p f x b++q2P p f x b 0):=by simp[q2P]
      refine Y2U (fun m=>m.get 0=some (.cells q0o p.cells)∧1≤m.nx∧Own 3 q3a 1 m v ((q1F p f++(q2D p f x b++q2P p f x b 0)).map LSite.cells)) ⟨by rw[get_put,Y0c (by omega),get_new,Y0c (by omega)];exact hg,by show 1≤g.nx+1;omega,by rw[←hB0];exact hown.wid (((Y2M g).new _).put (Y0u _) _)⟩ fun g2 hm=> ?_
      clear hg hgn hown
      obtain⟨hg,hgn,hown⟩:=hm
      refine Y2H (fun q:Nat×AV=>[(1,.ptr 0 0),(2,q.2),(3,.int .i64 f),(5,.int .i64 (q1q p x b q.1)),(11,p.funcs.av LFunc.cells),(12,.int .i64 p.funcs.list.length),(13,.int .i64 f),(27,x.blocks.av LBlock.cells),(28,.int .i64 x.blocks.list.length),(29,.int .i64 b),(34,y.ins.av LIns.cells),(35,.int .i64 y.ins.list.length),(36,.int .i64 q.1)]) (fun q g=>q.1≤y.ins.list.length∧g.get 0=some (.cells q0o p.cells)∧1≤g.nx∧Own 3 q3a 1 g q.2 ((q1F p f++(q2D p f x b++q2P p f x b q.1)).map LSite.cells)) (fun q=>y.ins.list.length-q.1) ((0,v)) ?_ ?_ ?_
      focus(repeat' first|exact q0h|refine q0e (by simp[hbv]) ?_)
      ·exact⟨Y0E _,hg,hgn,hown⟩
      clear hg hgn hown
      rintro⟨k,v⟩ g ⟨hki,hg,hgn,hown⟩
      dsimp only at hki hg hgn hown⊢
      refine zR0 ?_
      refine Y2w hP rfl (fun hc=>Y2s ?_) (fun hc=>Y2t ?_)
      · simp at hc
        obtain⟨z,hz⟩:=q0b hc
        have hzl:=Y2G hc
        have hiv:=q0j (e:=LIns.cells) (show 0<y.ins.list.length by omega)
        have I:=A.ins y (Y0N hy) z (Y0N hz)
        have hnk:q1q p x b (k+1:Nat)=q1q p x b k+1:=by simp[q1q];omega
        have hrange:0≤q1q p x b k∧q1q p x b k<100000:=by
          have q1:=q1r (x.blocks.list.take b)
          have q2:=q8w x.blocks.list b
          have q3:=(q1X A.ok).2.2.2.2.2
          have q4:=A.ty.parts tz (Y0N htz)
          simp only[q1q,hpl,Y3N]
          omega
        have hss:=z7b (p:=p) (f:=f) hy hz
        dsimp only[q0a]
        repeat first|refine Y2v ?_|refine Y2x ?_
        refine Y2W hP (by simp[hiv,hzl,hz]<;>rfl) ?_
        dsimp only[goK,q0a,q0c,q0d]
        refine Y2U (fun m=>m.get 0=some (.cells q0o p.cells)∧1≤m.nx∧Own 3 q3a 1 m v ((q1F p f++(q2D p f x b++q2P p f x b k)).map LSite.cells)∧m.get g.nx=some (.cells q1e z.cells)∧g.nx<m.nx) ⟨by rw[get_put,Y0c (by omega),get_new,Y0c (by omega)];exact hg,by show 1≤g.nx+1;omega,hown.wid (((Y2M g).new _).put (Y0u _) _),by rw[get_put,Y0e rfl];rfl,by show g.nx<g.nx+1;omega⟩ fun g2 hm=> ?_
        have hg1:1≤g.nx:=hgn
        clear hg hgn hown
        obtain⟨hg,hgn,hown,hgi,hgl⟩:=hm
        dsimp only[q1e,LIns.cells]at hgi
        have hgp:=hg
        dsimp only[q0o,LProg.cells]at hgp
        have e1:=x6v hP z.op
        cases hmk:z0C z.op with
        | false=>
          rw[hmk]at e1
          have hss2:q2P p f x b (k+1)=q2P p f x b k:=by rw[hss];simp[z6p,hmk]
          refine zA1f @hgi z5D e1 ?_
          refine⟨(k+1,v),by dsimp only;omega,trivial,?_,by dsimp only;omega,hg,hgn,by dsimp only;rw[hss2];exact hown⟩
          dsimp only
          rw[hnk]
          exact zLf (zc @hiv (zc (w64s (show k<9000000000000000000 by omega)) (w64i hrange.1 hrange.2)))
        | true=>
          rw[hmk]at e1
          obtain⟨t0,t1⟩:=I.type
          obtain⟨tn,htn⟩:=Y3j t0
          obtain⟨ty,hty⟩:=q0b (show tn<p.types.list.length by omega)
          have htl:=Y2G (show tn<p.types.list.length by omega)
          have hs1':z6p p f (q1q p x b k) z= [⟨f,q1q p x b k,ty.elem⟩]:=by simp[z6p,hmk,q1V,htn,hty]
          rw[hs1']at hss
          have l1:=z1C hsm f
          have l2:=z1D (p:=p) (f:=f) hs3 b
          have l3:=z1E (p:=p) (f:=f) (x:=x) (b:=b) k
          obtain⟨v',h',q1,q2,q3,q4⟩:=hown.push (t:=z2x) (row:=[.int .i64 f,.int .i64 (q1q p x b k),.int .i64 ty.elem]) (x0M (gl:=gl) (K:=K)) z9m rfl rfl (by simp;omega) hgn
          have hrows:(q1F p f++(q2D p f x b++q2P p f x b (k+1))).map LSite.cells=(q1F p f++(q2D p f x b++q2P p f x b k)).map LSite.cells++[[.int .i64 f,.int .i64 (q1q p x b k),.int .i64 ty.elem]]:=by
            rw[hss,←Y0O,←Y0O,Y3m]
            rw[Y0O]
            rfl
          dsimp only[z2x,q3a]at q1
          refine zA1f (zc @hgi (zc @hgp (zc @htv (zc @htn (zc @hty (zc @htl @q1)))))) z5D e1 ?_
          refine⟨(k+1,v'),by dsimp only;omega,trivial,?_,by dsimp only;omega,(q3.get 0 (by omega)).trans hg,by show 1≤h'.nx;omega,by dsimp only;rw[hrows];exact q2⟩
          dsimp only
          rw[hnk]
          exact zLf (zc @hiv (zc @htv (zc (w64s (show k<9000000000000000000 by omega)) (w64i hrange.1 hrange.2))))
      · simp at hc
        obtain rfl:k=y.ins.list.length:=by omega
        dsimp only[q0a]
        have hnb:q1q p x b (y.ins.list.length:Nat)=q1q p x (b+1:Nat) 0:=by
          have:=q6A hy
          simp only[q1q,Y3N]
          omega
        refine zA0 ?_
        refine⟨(b+1,v),by dsimp only;omega,trivial,?_,by dsimp only;omega,hg,hgn,by dsimp only;rw[z2A hy];exact hown⟩
        dsimp only
        rw[←hnb]
        exact zLf (w64s (show b<9000000000000000000 by omega))
    · simp at hc
      obtain rfl:b=x.blocks.list.length:=by omega
      dsimp only[q0a]
      refine zA0 ?_
      refine⟨(f+1,v),by dsimp only;omega,trivial,?_,by dsimp only;omega,hg,hgn,by dsimp only;rw[z2z hx];exact hown⟩
      exact zLf (w64s (show f<9000000000000000000 by omega))
  · simp at hc
    obtain rfl:f=p.funcs.list.length:=by omega
    dsimp only[q0a]
    refine zA0 ?_
    exact hown.slG
set_option maxHeartbeats 4000000 in
theorem x0t (hP : POk Tryz.prog F gl K) (hX:∀f a,K.ext f a=none) (p:LProg) (hs:SmallP p) (h6:q2I p=0):PureC Tryz.prog F q3M [.agg p.cells] ((Go.Ax.slG (q1F p p.funcs.list.length)).av LSite.cells):=by
  obtain⟨hc3,hmf,hn1,hn8⟩:=q3k h6
  have hfv:=q0j (e:=LFunc.cells) (show 0<p.funcs.list.length by omega)
  have hat:=fun f x (hf:p.funcs.list[f]? =some x)=>FnAt.of hs h6 hf
  have hlf:=fun h=>q3j (C:=Ctx.of Tryz.prog gl K) (t:=q9w) (h:=h) (q2c (e:=LFunc.cells) p.funcs) (q4B _)
  dsimp only[q9w]at hlf
  have hsm:∀x∈p.funcs.list,x.blocks.list.length≤16∧∀b∈x.blocks.list,b.ins.list.length≤128:=fun x hx=>by
    obtain⟨i,hi⟩:=Y3R hx
    obtain⟨q1,q2,q3⟩:=(hat i x hi).small
    exact⟨q1,q3⟩
  refine Y2z (O:=fun u g=>frzV 4 g u=some ((Go.Ax.slG (q1F p p.funcs.list.length)).av LSite.cells)) (k:=4) (by simp) ?_ (fun u g e=>e)
  refine Y2y hP q0f z0r rfl rfl ?_
  refine zA0 ?_
  refine Y2H (fun q:Nat×AV=>[(1,.ptr 0 0),(3,q.2),(4,.int .i64 q.1)]) (fun q g=>q.1≤p.funcs.list.length∧g.get 0=some (.cells q0o p.cells)∧1≤g.nx∧Own 3 q3a 1 g q.2 ((q1F p q.1).map LSite.cells)) (fun q=>p.funcs.list.length-q.1) ((0,.nilsl)) ?_ ?_ ?_
  focus(repeat' first|exact q0h|refine q0e (by simp) ?_)
  ·exact⟨Y0E _,by simp,by simp,.nil⟩
  rintro⟨f,v⟩ g ⟨hi,hg,hgn,hown⟩
  dsimp only at hi hg hgn hown⊢
  have hgp:=hg
  dsimp only[q0o,LProg.cells]at hgp
  refine zR0f (zc @hgp @hlf) ?_
  refine Y2w hP rfl (fun hc=>Y2s ?_) (fun hc=>Y2t ?_)
  · simp at hc
    obtain⟨x,hx⟩:=q0b hc
    have hfl:=Y2G hc
    have A:=hat f x hx
    obtain⟨hs1,hs2,hs3⟩:=A.small
    have hlb:=fun h=>q3j (C:=Ctx.of Tryz.prog gl K) (t:=q6L) (h:=h) (q2c (e:=LBlock.cells) x.blocks) (q4B _)
    dsimp only[q6L]at hlb
    have hF0:q1F p f=q1F p f++q2D p f x 0:=by simp[q2D]
    dsimp only[q0a]
    refine zA0 ?_
    refine Y2H (fun q:Nat×AV=>[(1,.ptr 0 0),(3,q.2),(4,.int .i64 f),(5,.int .i64 q.1)]) (fun q g=>q.1≤x.blocks.list.length∧g.get 0=some (.cells q0o p.cells)∧1≤g.nx∧Own 3 q3a 1 g q.2 ((q1F p f++q2D p f x q.1).map LSite.cells)) (fun q=>x.blocks.list.length-q.1) ((0,v)) ?_ ?_ ?_
    focus(repeat' first|exact q0h|refine q0e (by simp) ?_)
    ·exact⟨Y0E _,hg,hgn,by dsimp only;rw[←hF0];exact hown⟩
    clear hg hgn hown hgp
    rintro⟨b,v⟩ g ⟨hbi,hg,hgn,hown⟩
    dsimp only at hbi hg hgn hown⊢
    have hgp:=hg
    dsimp only[q0o,LProg.cells]at hgp
    refine zR0f (zc @hgp (zc @hfv (zc @hfl (zc @hx @hlb)))) ?_
    refine Y2w hP rfl (fun hc=>Y2s ?_) (fun hc=>Y2t ?_)
    · simp at hc
      obtain⟨y,hy⟩:=q0b hc
      have hyl:=Y2G hc
      have hbv:=q0j (e:=LBlock.cells) (show 0<x.blocks.list.length by omega)
      have hyn:=hs3 y (Y0N hy)
      have hli:=fun h=>q3j (C:=Ctx.of Tryz.prog gl K) (t:=z0y) (h:=h) (q2c (e:=LIns.cells) y.ins) (q4B _)
      dsimp only[z0y]at hli
      have hB0:q1F p f++q2D p f x b=q1F p f++(q2D p f x b++q2P p f x b 0):=by simp[q2P]
      dsimp only[q0a]
      refine zA0f (zc @hgp (zc @hfv (zc @hfl (zc @hx (zc @hbv (zc @hyl @hy)))))) ?_
      refine Y2H (fun q:Nat×AV=>[(1,.ptr 0 0),(3,q.2),(4,.int .i64 f),(5,.int .i64 b),(6,y.ins.av LIns.cells),(7,.int .i64 q.1)]) (fun q g=>q.1≤y.ins.list.length∧g.get 0=some (.cells q0o p.cells)∧1≤g.nx∧Own 3 q3a 1 g q.2 ((q1F p f++(q2D p f x b++q2P p f x b q.1)).map LSite.cells)) (fun q=>y.ins.list.length-q.1) ((0,v)) ?_ ?_ ?_
      focus(repeat' first|exact q0h|refine q0e (by simp[hbv]) ?_)
      ·exact⟨Y0E _,hg,hgn,by dsimp only;rw[←hB0];exact hown⟩
      clear hg hgn hown hgp
      rintro⟨k,v⟩ g ⟨hki,hg,hgn,hown⟩
      dsimp only at hki hg hgn hown⊢
      have hgp:=hg
      dsimp only[q0o,LProg.cells]at hgp
      refine zR0f @hli ?_
      refine Y2w hP rfl (fun hc=>Y2s ?_) (fun hc=>Y2t ?_)
      · simp at hc
        obtain⟨z,hz⟩:=q0b hc
        have hzl:=Y2G hc
        have hiv:=q0j (e:=LIns.cells) (show 0<y.ins.list.length by omega)
        have I:=A.ins y (Y0N hy) z (Y0N hz)
        have hss:=z7b (p:=p) (f:=f) hy hz
        have eN:=z5v hP hX p hs f x hx A.sig.1 A.sig.2 b (by omega) k (by omega)
        simp only[LProg.cells]at eN
        dsimp only[q0a]
        by_cases hmk:z.op=11∨z.op=12
        · have hmk':z0C z.op=true:=by rcases hmk with h|h<;>simp[z0C,h]
          obtain⟨t0,t1⟩:=I.type
          obtain⟨tn,htn⟩:=Y3j t0
          obtain⟨ty,hty⟩:=q0b (show tn<p.types.list.length by omega)
          have htl:=Y2G (show tn<p.types.list.length by omega)
          have htv:=q0j (e:=LType.cells) (show 0<p.types.list.length by omega)
          have hs1':z6p p f (q1q p x b k) z= [⟨f,q1q p x b k,ty.elem⟩]:=by simp[z6p,hmk',q1V,htn,hty]
          rw[hs1']at hss
          have l1:=z1C hsm f
          have l2:=z1D (p:=p) (f:=f) hs3 b
          have l3:=z1E (p:=p) (f:=f) (x:=x) (b:=b) k
          have hrows:(q1F p f++(q2D p f x b++q2P p f x b (k+1))).map LSite.cells=(q1F p f++(q2D p f x b++q2P p f x b k)).map LSite.cells++[[.int .i64 f,.int .i64 (q1q p x b k),.int .i64 ty.elem]]:=by
            rw[hss,←Y0O,←Y0O,Y3m]
            rw[Y0O]
            rfl
          obtain⟨v',h',q1,q2,q3,q4⟩:=hown.push (C:=Ctx.of Tryz.prog gl (K.tell [(q0s,[.agg [p.types.av LType.cells,p.funcs.av LFunc.cells],.int .i64 f,.int .i64 b,.int .i64 k],.int .i64 (q1q p x b k))])) (t:=z2x) (row:=[.int .i64 f,.int .i64 (q1q p x b k),.int .i64 ty.elem]) (x0M (gl:=gl)) z9m rfl rfl (by simp;omega) hgn
          obtain⟨h2,q5,q6⟩:=x1z q1
          have hg2':h2.get 0=_:=(z1y q6 0).trans ((q3.get 0 (by omega)).trans hg)
          have hn2:=x8f q6
          have hown2:Own 3 q3a 1 h2.z v' ((q1F p f++(q2D p f x b++q2P p f x b (k+1))).map LSite.cells):=by
            rw[hrows]
            exact q2.agr (by show h'.nx≤h2.nx;omega) fun r _ _=>by rw[q4G];exact z1y q6 r
          dsimp only[z2x,q3a]at q5
          simp only[htv]at q5
          rcases hmk with h|h
          · refine zR0f (zc @hiv (zc @hzl (zc @hz @h))) ?_
            have hsh:v= .nilsl∨∃r N,1≤r∧r<g.nx∧v= .sl r 0 N N 3 false:=by
              rcases hown with⟨e,_⟩|⟨_,r,hr1,hr2,e,_⟩
              ·exact .inl e
              ·exact .inr ⟨r,_,hr1,hr2,e⟩
            rcases hsh with rfl|⟨r,N,hr1,hr2,rfl⟩
            · skip
              first
                | (skip
                   refine Y3d hP [(q0s,[.agg [p.types.av LType.cells,p.funcs.av LFunc.cells],.int .i64 f,.int .i64 b,.int .i64 k],.int .i64 (q1q p x b k))] (fun e he=>by rcases Y2k.1 he with rfl|he;exact eN;cases he) [0,0,0,0,0,0,60,0,128,0,0,1536,3584,7680,16256,32640,65408,131070,262142,524287,1048575] (by kernel_rfl) (by kernel_rfl) (by simp[hX,hgp,hiv,hzl,hz,htv,htn,hty,htl,q5,(show¬g.nx=0 by omega),(show¬g.nx≤0 by omega),q0s,q1i,q1j,oneD,fpAt,fpOf,q0z,ldOf,q0V,q0n,FP.clash,FP.hard,FP.soft,overlap,inR,q0E,q1J,Nat.testBit,show¬g.nx+1≤g.nx by omega,show¬g.nx+2≤g.nx by omega,show¬g.nx+2≤g.nx+1 by omega,show¬g.nx+3≤g.nx by omega,show¬g.nx+3≤g.nx+1 by omega,show¬g.nx+3≤g.nx+2 by omega]<;>rfl) ?_
                   repeat' (refine q1g (fun hb=> ?_) (fun hb=> ?_)<;>(try simp only[Y3e,Y1k,Y3f]at hb)<;>refine q3i (by simp[hb,hX,hgp,hiv,hzl,hz,htv,htn,hty,htl,q5,(show¬g.nx=0 by omega),(show¬g.nx≤0 by omega),q0s,q1i,q1j,oneD,fpAt,fpOf,q0z,ldOf,q0V,q0n,FP.clash,FP.hard,FP.soft,overlap,inR,q0E,q1J,Nat.testBit,show¬g.nx+1≤g.nx by omega,show¬g.nx+2≤g.nx by omega,show¬g.nx+2≤g.nx+1 by omega,show¬g.nx+3≤g.nx by omega,show¬g.nx+3≤g.nx+1 by omega,show¬g.nx+3≤g.nx+2 by omega]<;>rfl) ?_)
                   all_goals dsimp only[okD,q0a])
              refine zA0 ?_
              refine⟨(k+1,v'),by dsimp only;omega,trivial,?_,by dsimp only;omega,by rw[q4G];exact hg2',by show 1≤h2.nx;omega,hown2⟩
              dsimp only
              exact zLf (zc @hiv (zc @htv (w64s (show k<9000000000000000000 by omega))))
            · skip
              first
                | (skip
                   refine Y3d hP [(q0s,[.agg [p.types.av LType.cells,p.funcs.av LFunc.cells],.int .i64 f,.int .i64 b,.int .i64 k],.int .i64 (q1q p x b k))] (fun e he=>by rcases Y2k.1 he with rfl|he;exact eN;cases he) [0,0,0,0,0,0,60,0,128,0,0,1536,3584,7680,16256,32640,65408,131070,262142,524287,1048575] (by kernel_rfl) (by kernel_rfl) (by simp[hX,hgp,hiv,hzl,hz,htv,htn,hty,htl,q5,(show¬g.nx=0 by omega),(show¬g.nx≤0 by omega),(show¬g.nx≤r by omega),(show¬r=g.nx by omega),(show¬g.nx=r by omega),q0s,q1i,q1j,oneD,fpAt,fpOf,q0z,ldOf,q0V,q0n,FP.clash,FP.hard,FP.soft,overlap,inR,q0E,q1J,Nat.testBit,show¬g.nx+1≤g.nx by omega,show¬g.nx+2≤g.nx by omega,show¬g.nx+2≤g.nx+1 by omega,show¬g.nx+3≤g.nx by omega,show¬g.nx+3≤g.nx+1 by omega,show¬g.nx+3≤g.nx+2 by omega]<;>rfl) ?_
                   repeat' (refine q1g (fun hb=> ?_) (fun hb=> ?_)<;>(try simp only[Y3e,Y1k,Y3f]at hb)<;>refine q3i (by simp[hb,hX,hgp,hiv,hzl,hz,htv,htn,hty,htl,q5,(show¬g.nx=0 by omega),(show¬g.nx≤0 by omega),(show¬g.nx≤r by omega),(show¬r=g.nx by omega),(show¬g.nx=r by omega),q0s,q1i,q1j,oneD,fpAt,fpOf,q0z,ldOf,q0V,q0n,FP.clash,FP.hard,FP.soft,overlap,inR,q0E,q1J,Nat.testBit,show¬g.nx+1≤g.nx by omega,show¬g.nx+2≤g.nx by omega,show¬g.nx+2≤g.nx+1 by omega,show¬g.nx+3≤g.nx by omega,show¬g.nx+3≤g.nx+1 by omega,show¬g.nx+3≤g.nx+2 by omega]<;>rfl) ?_)
                   all_goals dsimp only[okD,q0a])
              refine zA0 ?_
              refine⟨(k+1,v'),by dsimp only;omega,trivial,?_,by dsimp only;omega,by rw[q4G];exact hg2',by show 1≤h2.nx;omega,hown2⟩
              dsimp only
              exact zLf (zc @hiv (zc @htv (w64s (show k<9000000000000000000 by omega))))
          · refine zR0f (zc @hiv (zc @hzl (zc @hz @h))) ?_
            have hsh:v= .nilsl∨∃r N,1≤r∧r<g.nx∧v= .sl r 0 N N 3 false:=by
              rcases hown with⟨e,_⟩|⟨_,r,hr1,hr2,e,_⟩
              ·exact .inl e
              ·exact .inr ⟨r,_,hr1,hr2,e⟩
            rcases hsh with rfl|⟨r,N,hr1,hr2,rfl⟩
            · skip
              first
                | (skip
                   refine Y3d hP [(q0s,[.agg [p.types.av LType.cells,p.funcs.av LFunc.cells],.int .i64 f,.int .i64 b,.int .i64 k],.int .i64 (q1q p x b k))] (fun e he=>by rcases Y2k.1 he with rfl|he;exact eN;cases he) [0,0,0,0,0,0,60,0,128,0,0,1536,3584,7680,16256,32640,65408,131070,262142,524287,1048575] (by kernel_rfl) (by kernel_rfl) (by simp[hX,hgp,hiv,hzl,hz,htv,htn,hty,htl,q5,(show¬g.nx=0 by omega),(show¬g.nx≤0 by omega),q0s,q1i,q1j,oneD,fpAt,fpOf,q0z,ldOf,q0V,q0n,FP.clash,FP.hard,FP.soft,overlap,inR,q0E,q1J,Nat.testBit,show¬g.nx+1≤g.nx by omega,show¬g.nx+2≤g.nx by omega,show¬g.nx+2≤g.nx+1 by omega,show¬g.nx+3≤g.nx by omega,show¬g.nx+3≤g.nx+1 by omega,show¬g.nx+3≤g.nx+2 by omega]<;>rfl) ?_
                   repeat' (refine q1g (fun hb=> ?_) (fun hb=> ?_)<;>(try simp only[Y3e,Y1k,Y3f]at hb)<;>refine q3i (by simp[hb,hX,hgp,hiv,hzl,hz,htv,htn,hty,htl,q5,(show¬g.nx=0 by omega),(show¬g.nx≤0 by omega),q0s,q1i,q1j,oneD,fpAt,fpOf,q0z,ldOf,q0V,q0n,FP.clash,FP.hard,FP.soft,overlap,inR,q0E,q1J,Nat.testBit,show¬g.nx+1≤g.nx by omega,show¬g.nx+2≤g.nx by omega,show¬g.nx+2≤g.nx+1 by omega,show¬g.nx+3≤g.nx by omega,show¬g.nx+3≤g.nx+1 by omega,show¬g.nx+3≤g.nx+2 by omega]<;>rfl) ?_)
                   all_goals dsimp only[okD,q0a])
              refine zA0 ?_
              refine⟨(k+1,v'),by dsimp only;omega,trivial,?_,by dsimp only;omega,by rw[q4G];exact hg2',by show 1≤h2.nx;omega,hown2⟩
              dsimp only
              exact zLf (zc @hiv (zc @htv (w64s (show k<9000000000000000000 by omega))))
            · skip
              first
                | (skip
                   refine Y3d hP [(q0s,[.agg [p.types.av LType.cells,p.funcs.av LFunc.cells],.int .i64 f,.int .i64 b,.int .i64 k],.int .i64 (q1q p x b k))] (fun e he=>by rcases Y2k.1 he with rfl|he;exact eN;cases he) [0,0,0,0,0,0,60,0,128,0,0,1536,3584,7680,16256,32640,65408,131070,262142,524287,1048575] (by kernel_rfl) (by kernel_rfl) (by simp[hX,hgp,hiv,hzl,hz,htv,htn,hty,htl,q5,(show¬g.nx=0 by omega),(show¬g.nx≤0 by omega),(show¬g.nx≤r by omega),(show¬r=g.nx by omega),(show¬g.nx=r by omega),q0s,q1i,q1j,oneD,fpAt,fpOf,q0z,ldOf,q0V,q0n,FP.clash,FP.hard,FP.soft,overlap,inR,q0E,q1J,Nat.testBit,show¬g.nx+1≤g.nx by omega,show¬g.nx+2≤g.nx by omega,show¬g.nx+2≤g.nx+1 by omega,show¬g.nx+3≤g.nx by omega,show¬g.nx+3≤g.nx+1 by omega,show¬g.nx+3≤g.nx+2 by omega]<;>rfl) ?_
                   repeat' (refine q1g (fun hb=> ?_) (fun hb=> ?_)<;>(try simp only[Y3e,Y1k,Y3f]at hb)<;>refine q3i (by simp[hb,hX,hgp,hiv,hzl,hz,htv,htn,hty,htl,q5,(show¬g.nx=0 by omega),(show¬g.nx≤0 by omega),(show¬g.nx≤r by omega),(show¬r=g.nx by omega),(show¬g.nx=r by omega),q0s,q1i,q1j,oneD,fpAt,fpOf,q0z,ldOf,q0V,q0n,FP.clash,FP.hard,FP.soft,overlap,inR,q0E,q1J,Nat.testBit,show¬g.nx+1≤g.nx by omega,show¬g.nx+2≤g.nx by omega,show¬g.nx+2≤g.nx+1 by omega,show¬g.nx+3≤g.nx by omega,show¬g.nx+3≤g.nx+1 by omega,show¬g.nx+3≤g.nx+2 by omega]<;>rfl) ?_)
                   all_goals dsimp only[okD,q0a])
              refine zA0 ?_
              refine⟨(k+1,v'),by dsimp only;omega,trivial,?_,by dsimp only;omega,by rw[q4G];exact hg2',by show 1≤h2.nx;omega,hown2⟩
              dsimp only
              exact zLf (zc @hiv (zc @htv (w64s (show k<9000000000000000000 by omega))))
        · have hmk':z0C z.op=false:=by unfold z0C;rw[Y2F (fun h=>hmk (.inl h)),Y2F (fun h=>hmk (.inr h))];rfl
          have hss2:q2P p f x b (k+1)=q2P p f x b k:=by rw[hss];simp[z6p,hmk']
          have h11:¬z.op=11:=fun h=>hmk (.inl h)
          have h12:¬z.op=12:=fun h=>hmk (.inr h)
          refine zA0f (zc @hiv (zc @hzl (zc @hz (zc @h11 @h12)))) ?_
          refine⟨(k+1,v),by dsimp only;omega,trivial,?_,by dsimp only;omega,hg,hgn,by dsimp only;rw[hss2];exact hown⟩
          dsimp only
          exact zLf (zc @hiv (w64s (show k<9000000000000000000 by omega)))
      · simp at hc
        obtain rfl:k=y.ins.list.length:=by omega
        dsimp only[q0a]
        refine zA0 ?_
        refine⟨(b+1,v),by dsimp only;omega,trivial,?_,by dsimp only;omega,hg,hgn,by dsimp only;rw[z2A hy];exact hown⟩
        dsimp only
        exact zLf (w64s (show b<9000000000000000000 by omega))
    · simp at hc
      obtain rfl:b=x.blocks.list.length:=by omega
      dsimp only[q0a]
      refine zA0 ?_
      refine⟨(f+1,v),by dsimp only;omega,trivial,?_,by dsimp only;omega,hg,hgn,by dsimp only;rw[z2z hx];exact hown⟩
      exact zLf (w64s (show f<9000000000000000000 by omega))
  · simp at hc
    obtain rfl:f=p.funcs.list.length:=by omega
    dsimp only[q0a]
    refine zA0 ?_
    exact hown.slG
theorem neq_site(hE:K.eqT q3a=true)(x:LSite):q0B (Ctx.of Tryz.prog gl K) .neq q3a (.agg x.cells) (.agg x.cells)=some (.bool false):=by
 have h1:(Ctx.of Tryz.prog gl K).eqT q3a=true:=hE
 show(bif q6p (Ctx.of Tryz.prog gl K) q3a (.agg x.cells) (.agg x.cells)then(match eqA (Ctx.of Tryz.prog gl K) 100 q3a (.agg x.cells) (.agg x.cells)with|some b=>some (AV.bool (!b))|none=>none)else none)=_
 have h2:q6p (Ctx.of Tryz.prog gl K) q3a (.agg x.cells) (.agg x.cells)=true:=h1
 have h3:eqA (Ctx.of Tryz.prog gl K) 100 q3a (.agg x.cells) (.agg x.cells)=some true:=by
  dsimp only[q3a]at h1⊢
  simp[eqA,z0x,eqFields,h1,q2s,q7R,LSite.cells]
 rw[h2,h3];rfl
theorem x2X(x:LSite):q2g x.cells=true:=rfl
@[simp] theorem noRef_site(L:Sl LSite):q3Z (L.av LSite.cells)=true:=q3T x2X L
theorem z2m(hP:POk Tryz.prog F gl K)(hX:∀f a,K.ext f a=none)(hE:K.eqT q3a=true)(L:Sl LSite)(hlen:L.list.length<1000000):PureC Tryz.prog F q3A [L.av LSite.cells,L.av LSite.cells] (.bool true):=by
 have hlu:=fun h=>q3j (C:=Ctx.of Tryz.prog gl K) (t:=z2x) (h:=h) (q2c (e:=LSite.cells) L) (q4B _)
 dsimp only[z2x]at hlu
 have hq:=fun T x=>neq_site (gl:=gl) (K:=K.tell T) hE x
 dsimp only[q3a,LSite.cells]at hq
 refine zP q9W ?_
 refine zA0f @hlu ?_
 refine Y2H (fun i:Nat=>[(0,L.av LSite.cells),(1,L.av LSite.cells),(5,.int .i64 i)]) (fun i _=>i≤L.list.length) (fun i=>L.list.length-i) (0) ?_ ?_ ?_
 focus(repeat' first|exact q0h|refine q0e (by simp) ?_)
 ·exact Y0E _
 rintro i g hi
 refine zR0f @hlu ?_
 refine Y2w hP rfl (fun hc=>Y2s ?_) (fun hc=>Y2t ?_)
 ·simp at hc
  obtain⟨x,hx⟩:=q0b hc
  have hxl:=Y2G hc
  have hxv:=q0j (e:=LSite.cells) (show 0<L.list.length by omega)
  dsimp only[q0a]
  refine zEf (zc @hx (zc @hxl (zc @hxv @hq))) t0 ?_
  refine zA0 ?_
  refine⟨i+1,by omega,trivial,?_,by omega⟩
  exact zLf (zc @hxv (w64s (show i<9000000000000000000 by omega)))
 ·simp at hc
  dsimp only[q0a]
  repeat' first|refine zR0 ?_|(refine Y2u ⟨.inr rfl,_,_,rfl,rfl,?_⟩;dsimp only[q0q])
def z5i(p:LProg):AV:=if q2d p=0 then .tup [(Go.Ax.slG (q1F p p.funcs.list.length)).av LSite.cells,.int .i64 0]else .tup [.nilsl,.int .i64 (q2d p)]
theorem z2F{p:LProg}(h:q2d p=0):q2I p=0:=by
 unfold q2d at h
 split at h
 ·assumption
 ·exact h
theorem x7n(hV:Env2 F gl K)(p:LProg)(hs:SmallP p)(ho:OpsP p):PureC Tryz.prog F z0W [.agg p.cells] (z5i p):=by
 have hP:=hV.env.P
 have hX:=hV.env.X
 have e1:=z5L hV p hs ho
 simp only[LProg.cells]at e1
 by_cases h:q2d p=0
 ·have e2:=x6b hP hX p hs (z2F h)
  simp only[LProg.cells]at e2
  rw[h]at e1
  have hv:z5i p= .tup [(Go.Ax.slG (q1F p p.funcs.list.length)).av LSite.cells,.int .i64 0]:=Y0e h
  rw[hv]
  refine Y2z (O:=fun u _=>u= .tup [(Go.Ax.slG (q1F p p.funcs.list.length)).av LSite.cells,.int .i64 0]) (k:=5) (by simp) ?_ (fun u g e=>by subst e;unfold frzV;simp only[mapO,z2f x2X];rfl)
  refine Y2y hP q0f z5F rfl rfl ?_
  repeat' first|refine zR2 z3Y e1 x2r e2 ?_|(refine Y2u ⟨.inr rfl,_,_,rfl,rfl,?_⟩;dsimp only[q0q])
 ·have hv:z5i p= .tup [.nilsl,.int .i64 (q2d p)]:=Y0c h
  rw[hv]
  refine Y2z (O:=fun u _=>u= .tup [.nilsl,.int .i64 (q2d p)]) (k:=5) (by simp) ?_ (fun u g e=>by subst e;rfl)
  refine Y2y hP q0f z5F rfl rfl ?_
  repeat' first|refine zR1f @h z3Y e1 ?_|(refine Y2u ⟨.inr rfl,_,_,rfl,rfl,?_⟩;dsimp only[q0q])
theorem x2n(hV:Env2 F gl K)(p:LProg)(hs:SmallP p)(ho:OpsP p):PureC Tryz.prog F q5f [.agg p.cells] (z5i p):=by
 have hP:=hV.env.P
 have hX:=hV.env.X
 have e1:=x2F hP hX p hs
 simp only[LProg.cells]at e1
 by_cases h:q2d p=0
 ·have e2:=x0t hP hX p hs (z2F h)
  simp only[LProg.cells]at e2
  rw[h]at e1
  have hv:z5i p= .tup [(Go.Ax.slG (q1F p p.funcs.list.length)).av LSite.cells,.int .i64 0]:=Y0e h
  rw[hv]
  refine Y2z (O:=fun u _=>u= .tup [(Go.Ax.slG (q1F p p.funcs.list.length)).av LSite.cells,.int .i64 0]) (k:=5) (by simp) ?_ (fun u g e=>by subst e;unfold frzV;simp only[mapO,z2f x2X];rfl)
  refine Y2y hP q0f q8i rfl rfl ?_
  repeat' first|refine zR2 q8e e1 z0n e2 ?_|(refine Y2u ⟨.inr rfl,_,_,rfl,rfl,?_⟩;dsimp only[q0q])
 ·have hv:z5i p= .tup [.nilsl,.int .i64 (q2d p)]:=Y0c h
  rw[hv]
  refine Y2z (O:=fun u _=>u= .tup [.nilsl,.int .i64 (q2d p)]) (k:=5) (by simp) ?_ (fun u g e=>by subst e;rfl)
  refine Y2y hP q0f q8i rfl rfl ?_
  repeat' first|refine zR1f @h q8e e1 ?_|(refine Y2u ⟨.inr rfl,_,_,rfl,rfl,?_⟩;dsimp only[q0q])
theorem q9g{α:Type}{q:α→α→Bool}(h:∀a,q a a=true):∀l:List α,q7c q l l=true
 |[]=>rfl
 |a::l=>by simp[q7c,h a,q9g h l]
theorem x6d(p:LProg):x0v p p=true:=by
 have h1:∀x,q9b x x=true:=fun x=>by simp[q9b,q6N]
 have h2:∀x,q7f x x=true:=fun x=>by simp[q7f]
 have h3:∀x,q3D x x=true:=fun x=>by simp[q3D,h2 x.ed,q9g h1]
 have h4:∀x,q4T x x=true:=fun x=>by simp[q4T,q6N]
 have h5:∀x,z6t x x=true:=fun x=>by simp[z6t,q9g h3]
 simp[x0v,q9g h4,q9g h5]
set_option maxHeartbeats 2000000 in
theorem z7H(hV:Env2 F gl K)(hE:K.eqT q3a=true)(p:LProg)(hb:∀f∈(z6w p).funcs.list,∀b∈f.blocks.list,b.ins.list.length<4611686018427387904)(ho:OpsP (z6w p)):
  PureC Tryz.prog F q3B [.agg (z6w p).cells] (.bool true):=by
 have hP:=hV.env.P
 have hX:=hV.env.X
 have hV2:=hV
 obtain⟨q,hq⟩:∃q,q=z6w p:=⟨_,rfl⟩
 have hT:VW Tryz.prog F (.agg (twinP q).cells) (.agg q.cells):=by rw[hq];exact VW.twin p
 rw[←hq]at hb ho⊢
 have e0:=x4w hP q 100 (by decide) hb
 simp only[LProg.cells]at e0
 refine zP q9X ?_
 by_cases hgr:z5n q 100=true
 ·rw[hgr]at e0
  repeat' first|refine zR1 q2x e0 ?_|(refine Y2u ⟨.inr rfl,_,_,rfl,rfl,?_⟩;dsimp only[q0q])
 rw[Y3S]at hgr
 rw[hgr]at e0
 have hs:=(x1Y (by decide) hgr).1
 have e1:=(x7l hP hX q hs).weak hT
 have e2:=x7n hV q hs ho
 have e3:=x2n hV q hs ho
 have e4:=x7o hP hX hV.env.E q q hs
 rw[x6d]at e4
 simp only[LProg.cells]at e1 e2 e3 e4
 by_cases h:q2d q=0
 ·have hv:z5i q= .tup [(Go.Ax.slG (q1F q q.funcs.list.length)).av LSite.cells,.int .i64 0]:=Y0e h
  rw[hv]at e2 e3
  have hll:(Go.Ax.slG (q1F q q.funcs.list.length)).list.length<1000000:=by
   rw[slG_list]
   have h6:=z2F h
   have hn8:=(q3k h6).2.2.2
   have hsm:∀x∈q.funcs.list,x.blocks.list.length≤16∧∀b∈x.blocks.list,b.ins.list.length≤128:=fun x hx=>by
    obtain⟨i,hi⟩:=Y3R hx
    obtain⟨q1,q2,q3⟩:=(FnAt.of hs h6 hi).small
    exact⟨q1,q3⟩
   have:=z1C hsm q.funcs.list.length
   omega
  have e5:=z2m hP hX hE _ hll
  repeat' first|refine zA4 q2x e0 q3X e1 q8y e2 q3r e3 ?_|refine zR4 q2x e0 q3X e1 q8y e2 q3r e3 ?_|(refine Y2O hP q6m (e5) ?_ rfl rfl rfl rfl ?_;(focus(simp;done));refine Y2X hP (by simp<;>rfl) ?_;dsimp only[goK])|(refine Y2O hP q8E (e4) ?_ rfl rfl rfl rfl ?_;(focus(simp;done));refine Y2X hP (by simp<;>rfl) ?_;dsimp only[goK])|(refine Y2u ⟨.inr rfl,_,_,rfl,rfl,?_⟩;dsimp only[q0q])
 ·have hv:z5i q= .tup [.nilsl,.int .i64 (q2d q)]:=Y0c h
  rw[hv]at e2 e3
  have e5:=z2m hP hX hE .nil (by simp[Sl.list])
  simp only[Sl.av]at e5
  repeat' first|refine zA4 q2x e0 q3X e1 q8y e2 q3r e3 ?_|refine zR4 q2x e0 q3X e1 q8y e2 q3r e3 ?_|(refine Y2O hP q6m (e5) ?_ rfl rfl rfl rfl ?_;(focus(simp;done));refine Y2X hP (by simp<;>rfl) ?_;dsimp only[goK])|(refine Y2O hP q8E (e4) ?_ rfl rfl rfl rfl ?_;(focus(simp;done));refine Y2X hP (by simp<;>rfl) ?_;dsimp only[goK])|(refine Y2u ⟨.inr rfl,_,_,rfl,rfl,?_⟩;dsimp only[q0q])
theorem z8e(hV:Env2 F gl K)(hE:K.eqT q3a=true)(p:LProg)(hb:∀f∈p.funcs.list,∀b∈f.blocks.list,b.ins.list.length<4611686018427387904)(ho:OpsP p):
  PureC Tryz.prog F q3B [.agg p.cells] (.bool true):=by
 refine(z7H hV hE p (fun f hf b hbm=> ?_) ⟨fun f hf=>⟨fun b hbm z hz=> ?_⟩⟩).args (VW.prog p)
 ·obtain⟨f',hf',rfl⟩:=Y2S.1 (show f∈p.funcs.list.map z5m from hf)
  obtain⟨b',hb',rfl⟩:=Y2S.1 (show b∈f'.blocks.list.map z3t from hbm)
  have:=hb f' hf' b' hb'
  simpa [z3t,Sl.list]using this
 ·obtain⟨f',hf',rfl⟩:=Y2S.1 (show f∈p.funcs.list.map z5m from hf)
  obtain⟨b',hb',rfl⟩:=Y2S.1 (show b∈f'.blocks.list.map z3t from hbm)
  obtain⟨z',hz',rfl⟩:=Y2S.1 (show z∈b'.ins.list.map z6x from hz)
  exact(ho.op f' hf').op b' hb' z' hz'
end Go.Ax
namespace Go.Ax
section
variable{H:Type}{enc:TypeId×Value→H}{P:Program}{W:World}{spare:Nat→Bool}{held:Bool}{m:Loc}{fuel:Nat}
theorem Addr.add_block(a:Addr)(n:Nat):(a.add n).block=a.block:=by unfold Addr.add;split<;>rfl
theorem Addr.add_off(a:Addr)(n:Nat):(a.add n).off=a.off+n:=by unfold Addr.add;split<;>simp_all
theorem x8t{a:Addr}{v:Value}(h:W.cell? a=some v):∃arr e fz,W.heap[a.block]? =some (.cells arr e fz)∧a.spot=none∧arr[a.off]? =some v:=by
 unfold World.cell? at h
 split at h
 ·rename_i c e fz hb
  split at h
  ·cases h
  ·rename_i hs
   exact⟨c,e,fz,hb,by simpa using hs,h⟩
 ·cases h
def slIf{β:Type}(f:β→List AV):Option (List β)→AV
 |none=>.nilsl
 |some l=>.isl (l.map f)
theorem q5H{t:TypeId}{k:IntKind}{cs:List Value}{x:DataW H×List MemPlace}(ht:P.underlying t=some (.int k))(h:DataW.trod enc P W 0 spare held fuel t cs=some x):∃n,cs= [.int k n]∧(Lit.int k n).wf=true:=by
  cases fuel with
  |zero=>simp[DataW.trod]at h
  | succ f=>
    unfold DataW.trod at h
    rw[ht]at h
    split at h<;>simp_all
theorem u8_nat{n:Int}(h:(Lit.int .u8 n).wf=true):∃k:Nat,n= .ofNat k∧k<256:=by
 simp[Lit.wf,IntKind.min,IntKind.max,IntKind.signed,IntKind.bits]at h
 exact⟨n.toNat,by simp;omega,by omega⟩
end
theorem x5Z{P:Program}(h:((List.range P.types.size).all fun t=>match P.underlying t with|some (.slice e)=>decide (0<P.cellsOf e)|_=>true)=true):∀{t e:TypeId},t<P.types.size→P.underlying t=some (.slice e)→0<P.cellsOf e:=fun{t e} hl ht=>by
 have:=Y0G.1 h t (Y2o.2 hl)
 rw[ht]at this
 simpa using this
theorem z3P{H:Type}{enc:TypeId×Value→H}{P:Program}{W W':World}(hl:laidOutB P=true)(hm:mapsRowed P=true)(hz:((List.range P.types.size).all fun t=>match P.underlying t with|some (.slice e)=>decide (0<P.cellsOf e)|_=>true)=true)
    (hb:Go.RowKit.Below W.heap.size W W'):∀{ts:List TypeId} {vs:List Value} {ds:List (DataW H)} {ps:List MemPlace},(∀t∈ts,t<P.types.size)→DataW.TrodAll enc P W 0 (fun _=>true) true ts vs ds ps→(∀p∈ps,p.block<W.heap.size)→DataW.TrodAll enc P W' 0 (fun b=>decide (b<W.heap.size)) true ts vs ds ps
  |[],[],[],_,_,h,_=>h
  | t ::ts,v::vs,d::ds,_,hT,⟨p,q,⟨n,h1⟩,h2,e⟩,hlt=>by
    have lt:∀x∈p,x.block<W.heap.size:=fun x hx=>hlt x (by rw[e];exact Y2e _ hx)
    exact⟨p,q,⟨n,DataW.trod_stays (kids_rows hl hm) (x5Z hz) (fun h=>by cases h) (hT t Y0T) h1 (fun x hx=>hb.same (lt x hx)) (fun x hx=>by simpa using lt x hx)⟩,
      z3P hl hm hz hb (fun t ht=>hT t (Y0U _ ht)) h2 (fun x hx=>hlt x (by rw[e];exact Y2f _ hx)),e⟩
  |[],[],_::_,_,_,h,_=>by simp[DataW.TrodAll]at h
  |[],_::_,_,_,_,h,_=>by simp[DataW.TrodAll]at h
  |_::_,[],_,_,_,h,_=>by simp[DataW.TrodAll]at h
  |_::_,_::_,[],_,_,h,_=>by simp[DataW.TrodAll]at h
end Go.Ax
namespace Go.Ax
section
variable{H:Type}{enc:TypeId×Value→H}{P:Program}{W:World}{spare:Nat→Bool}{held:Bool}{m:Loc}{fuel:Nat}
def OkW(P:Program)(t:TypeId)(d:DataW H):Prop:=∀n∈d.weights P t,n≤reachBytes
theorem z2i{e:TypeId}{d:DataW H}{n:Nat}(hn:n∈d.weights P e):∀{l:List (DataW H)},d∈l→n∈DataW.weightsAll P e l
  | x::l,h=>by
    unfold DataW.weightsAll
    rcases Y2k.1 h with rfl|h
    ·exact Y2e _ hn
    ·exact Y2f _ (z2i hn h)
theorem q8N{n:Nat}:∀{ts:List TypeId} {ds:List (DataW H)} (i:Nat) (t:TypeId) (d:DataW H),ts[i]? =some t→ds[i]? =some d→n∈d.weights P t→n∈DataW.weightsEach P ts ds
  | t::ts,d::ds,0,_,_,ht,hd,h=>by
    cases ht;cases hd
    unfold DataW.weightsEach
    exact Y2e _ h
  | t::ts,d::ds,i+1,_,_,ht,hd,h=>by
    unfold DataW.weightsEach
    exact Y2f _ (q8N i _ _ (by simpa using ht) (by simpa using hd) h)
  |[],_,i,_,_,ht,_,_=>by simp at ht
  |_::_,[],i,_,_,_,hd,_=>by simp at hd
theorem OkW.elem{t e:TypeId}{l k:List (DataW H)}{d:DataW H}(h:OkW P t (.slice l k))(ht:P.underlying t=some (.slice e))(hd:d∈l):OkW P e d:=fun n hn=>h n (by
 unfold DataW.weights
 rw[ht]
 exact Y0U _ (Y2e _ (z2i hn hd)))
theorem OkW.len{t e:TypeId}{l k:List (DataW H)}(h:OkW P t (.slice l k))(ht:P.underlying t=some (.slice e)):(l.length+k.length)*P.bytesOf e≤reachBytes:=h _ (by
 unfold DataW.weights
 rw[ht]
 exact Y0T)
theorem okW_of{ts:List TypeId}{ds:List (DataW H)}(h:(DataW.weightsEach P ts ds).all (·≤reachBytes)=true){i:Nat}{t:TypeId}{d:DataW H}(ht:ts[i]? =some t)(hd:ds[i]? =some d):OkW P t d:=fun n hn=>by
 have:=Y0G.1 h n (q8N i t d ht hd hn)
 simpa using this
theorem q9f{β:Type}{f:β→List AV}{good:β→Prop}{t e:TypeId}{es:Nat}{v:Value}{x:DataW H×List MemPlace}(ht:P.underlying t=some (.slice e))(hes:P.cellsOf e=es)(hpos:0<es)
  (hel:∀n cs' y,DataW.trod enc P W 0 spare held n e cs'=some y→OkW P e y.1→∃q:β,good q∧LRel P (frozen W) m (f q) cs')
  (h:DataW.trod enc P W 0 spare held fuel t [v]=some x) (hw:OkW P t x.1):∃E:Option (List β),VRel P (frozen W) m (slIf f E) v∧(∀l,E=some l→l.length*P.bytesOf e≤reachBytes∧∀q∈l,good q):=by
 rcases Go.Deep.open_slice ht h with⟨hv,_⟩|⟨a,len,cap,k,n,D,Pl,hv,_,hl,_,hk,hxe,hx⟩
 ·cases hv
  exact⟨none,.nilsl,fun l hl=>by cases hl⟩
 ·cases hv
  rw[hes]at hx
  by_cases h0:len=0
  ·subst h0
   exact⟨some [],.isl0 _ _,fun l hl=>by cases hl;exact⟨by simp,fun q hq=>by cases hq⟩⟩
  rw[hxe]at hw
  have hkl:len≤k:=by rw[hk];split<;>omega
  have hall:∀i,i<len→∃q cs',good q∧LRel P (frozen W) m (f q) cs'∧W.cells? 0 (a.add (i*es)) es=some cs':=fun i hi=>by
   obtain⟨cs',h1,h2⟩:=hx i (by omega)
   obtain⟨q,hq,hr⟩:=hel n cs' _ h2 (hw.elem ht (List.mem_map_of_mem (Y2o.2 hi)))
   exact⟨q,cs',hq,hr,h1⟩
  obtain⟨q0,cs0,_,_,hc0⟩:=hall 0 (by omega)
  obtain⟨_,hlen0,hcell0⟩:=World.cells?_some hc0
  have hz:=hcell0 0 hpos
  rw[Y0n (by omega)]at hz
  rw[Y1t]at hz
  have ha0:(a.add 0).add 0=a:=by unfold Addr.add;simp
  rw[ha0]at hz
  obtain⟨arr,e0,fz,hb,hsp,_⟩:=x8t hz
  let Q:Nat→β:=fun i=>if hi:i<len then Classical.choose (hall i hi)else q0
  have hQ:∀i,i<len→∃cs',good (Q i)∧LRel P (frozen W) m (f (Q i)) cs'∧W.cells? 0 (a.add (i*es)) es=some cs':=fun i hi=>by
   show∃cs',good (if hi:i<len then Classical.choose (hall i hi)else q0)∧LRel P (frozen W) m (f (if hi:i<len then Classical.choose (hall i hi)else q0)) cs'∧_
   rw[dif_pos hi]
   exact Classical.choose_spec (hall i hi)
  have hcell:∀i j,i<len→j<es→∃x y,(f (Q i))[j]? =some x∧arr[a.off+i*es+j]? =some y∧VRel P (frozen W) m x y:=fun i j hi hj=>by
   obtain⟨cs',_,hr,hc⟩:=hQ i hi
   obtain⟨_,hlen,hcl⟩:=World.cells?_some hc
   have h1:=hcl j hj
   have hj2:j<cs'.length:=by omega
   rw[Y0n hj2]at h1
   obtain⟨arr',e',fz',g1,_,g3⟩:=x8t h1
   rw[Addr.add_block,Addr.add_block,hb]at g1
   cases g1
   rw[Addr.add_off,Addr.add_off]at g3
   have hjf:j<(f (Q i)).length:=by rw[hr.len];exact hj2
   exact⟨(f (Q i))[j],cs'[j],Y0n hjf,g3,hr.at' j _ _ (Y0n hjf) (Y0n hj2)⟩
  have hflen:∀i,i<len→(f (Q i)).length=es:=fun i hi=>by
   obtain⟨cs',_,hr,hc⟩:=hQ i hi
   rw[hr.len];exact(World.cells?_some hc).2.1
  refine⟨some ((List.range len).map Q),?_,fun l hl=> ?_⟩
  ·have hL:(((List.range len).map Q).map f).length=len:=by simp
   have hat:∀i c,(((List.range len).map Q).map f)[i]? =some c→i<len∧c=f (Q i):=fun i c hc=>by
    have hi:i<len:=by have:=(Y0m.1 hc).1;rw[hL]at this;exact this
    refine⟨hi,?_⟩
    rw[Y0R,Y0R,Y3Q hi]at hc
    simpa using hc.symm
   obtain⟨ab,ao,asp⟩:=a
   dsimp only at hsp hb hcell
   subst hsp
   have:=VRel.isl (P:=P) (F:=frozen W) (m:=m) (xs:=((List.range len).map Q).map f) (b:=ab) (off:=ao) (cap:=cap) (arr:=arr) (e:=e0) (fz:=fz) es (fun i j=>arr.getD (ao+i*es+j) Go.undef) (.inl hb) (by rw[hL];exact hl)
    (fun c hc=>by
     obtain⟨i,hi,rfl⟩:=Y0F hc
     obtain⟨h1,h2⟩:=hat i _ (Y0n hi)
     rw[h2];exact hflen i h1)
    (fun i j hi hj=>by
     rw[hL]at hi
     obtain⟨x,y,_,hy,_⟩:=hcell i j hi hj
     rw[Y1M,hy];rfl)
    (fun i j c x hc hx=>by
     obtain⟨h1,rfl⟩:=hat i c hc
     have hj:j<es:=by have:=(Y0m.1 hx).1;rw[hflen i h1]at this;exact this
     obtain⟨x',y,hx',hy,hr⟩:=hcell i j h1 hj
     rw[hx]at hx'
     cases hx'
     rw[Y1M,hy];exact hr)
   rw[hL]at this
   exact this
  ·cases hl
   refine⟨?_,fun q hq=> ?_⟩
   ·have:=hw.len ht
    simp only[Y1q,Y3H]at this
    rw[Y1q,Y3H]
    exact Y0C (Y1v _ (by omega)) this
   obtain⟨i,hi,rfl⟩:=Y2S.1 hq
   obtain⟨_,hg,_⟩:=hQ i (Y2o.1 hi)
   exact hg
theorem q6D{t:TypeId}{fs:Array Field}{cs:List Value}{x:DataW H×List MemPlace}(ht:P.underlying t=some (.struct fs))(h:DataW.trod enc P W 0 spare held fuel t cs=some x)(hw:OkW P t x.1):
  cs.length=P.cellsOf t∧∀(i:Nat) (f:Field),fs[i]? =some f→∃n y,DataW.trod enc P W 0 spare held n f.type ((cs.drop f.offset).take (P.cellsOf f.type))=some y∧OkW P f.type y.1:=by
 obtain⟨xs,n,_,hx,h1,h2,h3⟩:=DataW.trod_struct ht h
 refine⟨h1,fun i f hf=> ?_⟩
 have hi:i<xs.length:=by rw[h2];exact(Y0s.1 hf).1
 refine⟨n,xs[i],by rw[h3 i f hf,Y0n hi],fun k hk=>hw k ?_⟩
 rw[hx]
 unfold DataW.weights
 rw[ht]
 refine q8N i f.type xs[i].1 ?_ ?_ hk
 ·rw[Y0R,Y1U,hf];rfl
 ·rw[Y0R,Y0n hi];rfl
end
theorem law_pure{P:Program}{W:World}{f:FuncId}{avs:List AV}{args:Array Value}(hA:LRel P (frozen W) ⟨fun _=>none,fun _=>none⟩ avs args.toList)(h:PureC P (frozen W) f avs (.bool true)):Calls P f args W fun e W'=>e= .returned (.bool true)∧Go.RowKit.Below W.heap.size W W':=by
 have h1:=callsIn_wide.1 (h ⟨fun _=>none,fun _=>none⟩ W 0 args (fun b o hb=>hb.elim id fun h=>by cases h) hA)
 refine h1.mono fun e W' he=> ?_
 obtain⟨cv,fz,rfl,hs,hn,hold,_,_,_,hv⟩:=he
 obtain rfl:=hv.bool_inv
 exact⟨rfl,hs.os,hs.tape,hs.output,hn,fun k hk=>hold k hk⟩
end Go.Ax
set_option maxRecDepth 20000
noncomputable section
namespace Go.Ax
open Go.Proofs
theorem cells2:Tryz.prog.cellsOf 2=1:=by kernel_rfl
theorem x0F:Tryz.prog.cellsOf 3=1:=by kernel_rfl
theorem x7V:Tryz.prog.cellsOf 5=1:=by kernel_rfl
theorem cells22:Tryz.prog.cellsOf 22=1:=by kernel_rfl
theorem cells23:Tryz.prog.cellsOf 23=1:=by kernel_rfl
theorem cells25:Tryz.prog.cellsOf 25=2:=by kernel_rfl
theorem x8s:Tryz.prog.cellsOf 37=1:=by kernel_rfl
theorem cells54:Tryz.prog.cellsOf 54=1:=by kernel_rfl
theorem x8q:Tryz.prog.cellsOf 56=2:=by kernel_rfl
theorem cells57:Tryz.prog.cellsOf 57=1:=by kernel_rfl
theorem cells59:Tryz.prog.cellsOf 59=4:=by kernel_rfl
theorem x8p:Tryz.prog.cellsOf 61=5:=by kernel_rfl
theorem x8r:Tryz.prog.cellsOf 39=7:=by kernel_rfl
theorem x8o:Tryz.prog.cellsOf 95=4:=by kernel_rfl
theorem bytes39:Tryz.prog.bytesOf 39=88:=by kernel_rfl
def isL{X:Type}:Option (List X)→Sl X
 |none=>.nil
 |some l=>.mk l
theorem z6G{X:Type}(f:X→List AV)(E:Option (List X)):slIf f E=(isL E).av f:=by cases E<;>rfl
theorem x3b{X:Type}{E:Option (List X)}{x:X}(h:x∈(isL E).list):∃l,E=some l∧x∈l:=by
 cases E with
 |none=>simp[isL,Sl.list]at h
 |some l=>exact⟨l,rfl,h⟩
theorem len2'{α:Type}:∀(l:List α),l.length=2→∃a b,l= [a,b]
 |[a,b],_=>⟨a,b,rfl⟩
theorem len4'{α:Type}:∀(l:List α),l.length=4→∃a b c d,l= [a,b,c,d]
 |[a,b,c,d],_=>⟨a,b,c,d,rfl⟩
theorem len5'{α:Type}:∀(l:List α),l.length=5→∃a b c d e,l= [a,b,c,d,e]
 |[a,b,c,d,e],_=>⟨a,b,c,d,e,rfl⟩
theorem len7'{α:Type}:∀(l:List α),l.length=7→∃a b c d e f g,l= [a,b,c,d,e,f,g]
 |[a,b,c,d,e,f,g],_=>⟨a,b,c,d,e,f,g,rfl⟩
section
variable{H:Type}{enc:TypeId×Value→H}{W:World}{sp:Nat→Bool}{hd:Bool}{m:Go.Ax.Loc}
theorem z9w{n:Nat}{v:Value}{y:DataW H×List MemPlace}(h:DataW.trod enc Tryz.prog W 0 sp hd n 37 [v]=some y)(hw:OkW Tryz.prog 37 y.1):∃l:Sl Int,VRel Tryz.prog (Go.Ax.frozen W) m (l.av cI) v:=by
  obtain⟨E,h1,_⟩:=q9f (m:=m) (f:=cI) (good:=fun _=>True) Tryz.underlying37 x0F (by omega) (fun n cs y h _=>by
    obtain⟨k,hk,_⟩:=q5H Tryz.underlying3 h
    subst hk
    exact⟨k,trivial,.cons (.int _ _) .nil⟩) h hw
  exact⟨isL E,by rw[←z6G];exact h1⟩
theorem type_rel{n:Nat}{cs:List Value}{y:DataW H×List MemPlace}(h:DataW.trod enc Tryz.prog W 0 sp hd n 95 cs=some y)(hw:OkW Tryz.prog 95 y.1):∃q:LType,LRel Tryz.prog (Go.Ax.frozen W) m q.cells cs:=by
 obtain⟨hl,hf⟩:=q6D Tryz.underlying95 h hw
 rw[x8o]at hl
 obtain⟨c0,c1,c2,c3,rfl⟩:=len4' cs hl
 obtain⟨n0,y0,h0,w0⟩:∃n y,DataW.trod enc Tryz.prog W 0 sp hd n 5 (([c0,c1,c2,c3].drop 0).take (Tryz.prog.cellsOf 5))=some y∧OkW Tryz.prog 5 y.1:=hf 0 _ rfl
 obtain⟨n1,y1,h1,w1⟩:∃n y,DataW.trod enc Tryz.prog W 0 sp hd n 3 (([c0,c1,c2,c3].drop 1).take (Tryz.prog.cellsOf 3))=some y∧OkW Tryz.prog 3 y.1:=hf 1 _ rfl
 obtain⟨n2,y2,h2,w2⟩:∃n y,DataW.trod enc Tryz.prog W 0 sp hd n 3 (([c0,c1,c2,c3].drop 2).take (Tryz.prog.cellsOf 3))=some y∧OkW Tryz.prog 3 y.1:=hf 2 _ rfl
 obtain⟨n3,y3,h3,w3⟩:∃n y,DataW.trod enc Tryz.prog W 0 sp hd n 37 (([c0,c1,c2,c3].drop 3).take (Tryz.prog.cellsOf 37))=some y∧OkW Tryz.prog 37 y.1:=hf 3 _ rfl
 rw[x7V]at h0
 rw[x0F]at h1 h2
 rw[x8s]at h3
 simp only[Y3V,Y1Q,Y3M,Y3W]at h0 h1 h2 h3
 obtain⟨k0,e0,_⟩:=q5H Tryz.underlying5 h0
 obtain⟨k1,e1,_⟩:=q5H Tryz.underlying3 h1
 obtain⟨k2,e2,_⟩:=q5H Tryz.underlying3 h2
 obtain⟨l,hr⟩:=z9w (m:=m) h3 w3
 simp only[Y1g,and_true]at e0 e1 e2
 subst e0 e1 e2
 exact⟨⟨k0,k1,k2,l⟩,.cons (.int _ _) (.cons (.int _ _) (.cons (.int _ _) (.cons hr .nil)))⟩
theorem x8P{n:Nat}{v:Value}{y:DataW H×List MemPlace}(h:DataW.trod enc Tryz.prog W 0 sp hd n 22 [v]=some y)(hw:OkW Tryz.prog 22 y.1):∃l:Sl LType,VRel Tryz.prog (Go.Ax.frozen W) m (l.av LType.cells) v:=by
  obtain⟨E,h1,_⟩:=q9f (m:=m) (f:=LType.cells) (good:=fun _=>True) Tryz.underlying22 x8o (by omega) (fun n cs y h w=>by
    obtain⟨q,hq⟩:=type_rel (m:=m) h w
    exact⟨q,trivial,hq⟩) h hw
  exact⟨isL E,by rw[←z6G];exact h1⟩
theorem ins_rel{n:Nat}{cs:List Value}{y:DataW H×List MemPlace}(h:DataW.trod enc Tryz.prog W 0 sp hd n 39 cs=some y)(hw:OkW Tryz.prog 39 y.1):∃q:LIns,(0≤q.op∧q.op<256)∧LRel Tryz.prog (Go.Ax.frozen W) m q.cells cs:=by
 obtain⟨hl,hf⟩:=q6D Tryz.underlying39 h hw
 rw[x8r]at hl
 obtain⟨c0,c1,c2,c3,c4,c5,c6,rfl⟩:=len7' cs hl
 obtain⟨n0,y0,h0,w0⟩:∃n y,DataW.trod enc Tryz.prog W 0 sp hd n 5 (([c0,c1,c2,c3,c4,c5,c6].drop 0).take (Tryz.prog.cellsOf 5))=some y∧OkW Tryz.prog 5 y.1:=hf 0 _ rfl
 obtain⟨n1,y1,h1,w1⟩:∃n y,DataW.trod enc Tryz.prog W 0 sp hd n 3 (([c0,c1,c2,c3,c4,c5,c6].drop 1).take (Tryz.prog.cellsOf 3))=some y∧OkW Tryz.prog 3 y.1:=hf 1 _ rfl
 obtain⟨n2,y2,h2,w2⟩:∃n y,DataW.trod enc Tryz.prog W 0 sp hd n 3 (([c0,c1,c2,c3,c4,c5,c6].drop 2).take (Tryz.prog.cellsOf 3))=some y∧OkW Tryz.prog 3 y.1:=hf 2 _ rfl
 obtain⟨n3,y3,h3,w3⟩:∃n y,DataW.trod enc Tryz.prog W 0 sp hd n 3 (([c0,c1,c2,c3,c4,c5,c6].drop 3).take (Tryz.prog.cellsOf 3))=some y∧OkW Tryz.prog 3 y.1:=hf 3 _ rfl
 obtain⟨n4,y4,h4,w4⟩:∃n y,DataW.trod enc Tryz.prog W 0 sp hd n 2 (([c0,c1,c2,c3,c4,c5,c6].drop 4).take (Tryz.prog.cellsOf 2))=some y∧OkW Tryz.prog 2 y.1:=hf 4 _ rfl
 obtain⟨n5,y5,h5,w5⟩:∃n y,DataW.trod enc Tryz.prog W 0 sp hd n 37 (([c0,c1,c2,c3,c4,c5,c6].drop 5).take (Tryz.prog.cellsOf 37))=some y∧OkW Tryz.prog 37 y.1:=hf 5 _ rfl
 obtain⟨n6,y6,h6,w6⟩:∃n y,DataW.trod enc Tryz.prog W 0 sp hd n 37 (([c0,c1,c2,c3,c4,c5,c6].drop 6).take (Tryz.prog.cellsOf 37))=some y∧OkW Tryz.prog 37 y.1:=hf 6 _ rfl
 rw[x7V]at h0
 rw[x0F]at h1 h2 h3
 rw[cells2]at h4
 rw[x8s]at h5 h6
 simp only[Y3V,Y1Q,Y3M,Y3W]at h0 h1 h2 h3 h4 h5 h6
 obtain⟨k0,e0,ww⟩:=q5H Tryz.underlying5 h0
 obtain⟨k1,e1,_⟩:=q5H Tryz.underlying3 h1
 obtain⟨k2,e2,_⟩:=q5H Tryz.underlying3 h2
 obtain⟨k3,e3,_⟩:=q5H Tryz.underlying3 h3
 obtain⟨k4,e4,_⟩:=q5H Tryz.underlying2 h4
 obtain⟨l5,hr5⟩:=z9w (m:=m) h5 w5
 obtain⟨l6,hr6⟩:=z9w (m:=m) h6 w6
 simp only[Y1g,and_true]at e0 e1 e2 e3 e4
 subst e0 e1 e2 e3 e4
 obtain⟨k,rfl,hk⟩:=u8_nat ww
 exact⟨⟨.ofNat k,k1,k2,k3,k4,l5,l6⟩,⟨by simp,by simp;omega⟩,.cons (.int _ _) (.cons (.int _ _) (.cons (.int _ _) (.cons (.int _ _) (.cons (.int _ _) (.cons hr5 (.cons hr6 .nil))))))⟩
def x7D(b:LBlock):Prop:=b.ins.list.length<4611686018427387904∧∀x∈b.ins.list,0≤x.op∧x.op<256
theorem block_rel{n:Nat}{cs:List Value}{y:DataW H×List MemPlace}(h:DataW.trod enc Tryz.prog W 0 sp hd n 61 cs=some y)(hw:OkW Tryz.prog 61 y.1):∃q:LBlock,x7D q∧LRel Tryz.prog (Go.Ax.frozen W) m q.cells cs:=by
  obtain⟨hl,hf⟩:=q6D Tryz.underlying61 h hw
  rw[x8p]at hl
  obtain⟨c0,c1,c2,c3,c4,rfl⟩:=len5' cs hl
  obtain⟨n0,y0,h0,w0⟩:∃n y,DataW.trod enc Tryz.prog W 0 sp hd n 57 (([c0,c1,c2,c3,c4].drop 0).take (Tryz.prog.cellsOf 57))=some y∧OkW Tryz.prog 57 y.1:=hf 0 _ rfl
  obtain⟨n1,y1,h1,w1⟩:∃n y,DataW.trod enc Tryz.prog W 0 sp hd n 59 (([c0,c1,c2,c3,c4].drop 1).take (Tryz.prog.cellsOf 59))=some y∧OkW Tryz.prog 59 y.1:=hf 1 _ rfl
  rw[cells57]at h0
  rw[cells59]at h1
  simp only[Y3V,Y1Q,Y3M,Y3W,List.take_nil]at h0 h1
  obtain⟨E,hE,gE⟩:=q9f (m:=m) (f:=LIns.cells) (good:=fun q=>0≤q.op∧q.op<256) Tryz.underlying57 x8r (by omega) (fun n cs y h w=>ins_rel (m:=m) h w) h0 w0
  obtain⟨_,hf1⟩:=q6D Tryz.underlying59 h1 w1
  obtain⟨m0,z0,g0,_⟩:∃n y,DataW.trod enc Tryz.prog W 0 sp hd n 5 (([c1,c2,c3,c4].drop 0).take (Tryz.prog.cellsOf 5))=some y∧OkW Tryz.prog 5 y.1:=hf1 0 _ rfl
  obtain⟨m1,z1,g1,_⟩:∃n y,DataW.trod enc Tryz.prog W 0 sp hd n 3 (([c1,c2,c3,c4].drop 1).take (Tryz.prog.cellsOf 3))=some y∧OkW Tryz.prog 3 y.1:=hf1 1 _ rfl
  obtain⟨m2,z2,g2,_⟩:∃n y,DataW.trod enc Tryz.prog W 0 sp hd n 3 (([c1,c2,c3,c4].drop 2).take (Tryz.prog.cellsOf 3))=some y∧OkW Tryz.prog 3 y.1:=hf1 2 _ rfl
  obtain⟨m3,z3,g3,_⟩:∃n y,DataW.trod enc Tryz.prog W 0 sp hd n 3 (([c1,c2,c3,c4].drop 3).take (Tryz.prog.cellsOf 3))=some y∧OkW Tryz.prog 3 y.1:=hf1 3 _ rfl
  rw[x7V]at g0
  rw[x0F]at g1 g2 g3
  simp only[Y3V,Y1Q,Y3M,Y3W]at g0 g1 g2 g3
  obtain⟨k0,e0,_⟩:=q5H Tryz.underlying5 g0
  obtain⟨k1,e1,_⟩:=q5H Tryz.underlying3 g1
  obtain⟨k2,e2,_⟩:=q5H Tryz.underlying3 g2
  obtain⟨k3,e3,_⟩:=q5H Tryz.underlying3 g3
  simp only[Y1g,and_true]at e0 e1 e2 e3
  subst e0 e1 e2 e3
  rw[z6G]at hE
  refine⟨⟨isL E,⟨k0,k1,k2,k3⟩⟩,⟨?_,fun x hx=> ?_⟩,.cons hE (.cons (.int _ _) (.cons (.int _ _) (.cons (.int _ _) (.cons (.int _ _) .nil))))⟩
  · cases E with
    |none=>simp[isL,Sl.list]
    | some l=>
      have:=(gE l rfl).1
      rw[bytes39]at this
      simp only[reachBytes]at this
      show l.length<_
      omega
  · obtain⟨l,hl,hxl⟩:=x3b hx
    exact(gE l hl).2 x hxl
theorem func_rel{n:Nat}{cs:List Value}{y:DataW H×List MemPlace}(h:DataW.trod enc Tryz.prog W 0 sp hd n 56 cs=some y)(hw:OkW Tryz.prog 56 y.1):∃q:LFunc,(∀b∈q.blocks.list,x7D b)∧LRel Tryz.prog (Go.Ax.frozen W) m q.cells cs:=by
 obtain⟨hl,hf⟩:=q6D Tryz.underlying56 h hw
 rw[x8q]at hl
 obtain⟨c0,c1,rfl⟩:=len2' cs hl
 obtain⟨n0,y0,h0,w0⟩:∃n y,DataW.trod enc Tryz.prog W 0 sp hd n 3 (([c0,c1].drop 0).take (Tryz.prog.cellsOf 3))=some y∧OkW Tryz.prog 3 y.1:=hf 0 _ rfl
 obtain⟨n1,y1,h1,w1⟩:∃n y,DataW.trod enc Tryz.prog W 0 sp hd n 54 (([c0,c1].drop 1).take (Tryz.prog.cellsOf 54))=some y∧OkW Tryz.prog 54 y.1:=hf 1 _ rfl
 rw[x0F]at h0
 rw[cells54]at h1
 simp only[Y3V,Y1Q,Y3M,Y3W]at h0 h1
 obtain⟨k0,e0,_⟩:=q5H Tryz.underlying3 h0
 simp only[Y1g,and_true]at e0
 subst e0
 obtain⟨E,hE,gE⟩:=q9f (m:=m) (f:=LBlock.cells) (good:=x7D) Tryz.underlying54 x8p (by omega) (fun n cs y h w=>block_rel (m:=m) h w) h1 w1
 rw[z6G]at hE
 refine⟨⟨k0,isL E⟩,fun b hb=> ?_,.cons (.int _ _) (.cons hE .nil)⟩
 obtain⟨l,hl,hxl⟩:=x3b hb
 exact(gE l hl).2 b hxl
def goodP(p:LProg):Prop:=∀f∈p.funcs.list,∀b∈f.blocks.list,x7D b
theorem prog_rel{v:Value}{d:DataW H}{pl:List MemPlace}(h:DataW.Trod enc Tryz.prog W 0 sp hd 25 v d pl)(hw:OkW Tryz.prog 25 d):∃p:LProg,goodP p∧VRel Tryz.prog (Go.Ax.frozen W) m (.agg p.cells) v:=by
 obtain⟨n,h⟩:=h
 obtain⟨hl,hf⟩:=q6D Tryz.underlying25 h hw
 rw[cells25]at hl
 have hv:∃a,v= .agg a:=by
  cases v<;>first|exact⟨_,rfl⟩|(simp[Value.cells]at hl)
 obtain⟨a,rfl⟩:=hv
 have hl:a.toList.length=2:=hl
 obtain⟨n0,y0,h0,w0⟩:∃n y,DataW.trod enc Tryz.prog W 0 sp hd n 22 ((a.toList.drop 0).take (Tryz.prog.cellsOf 22))=some y∧OkW Tryz.prog 22 y.1:=hf 0 _ rfl
 obtain⟨n1,y1,h1,w1⟩:∃n y,DataW.trod enc Tryz.prog W 0 sp hd n 23 ((a.toList.drop 1).take (Tryz.prog.cellsOf 23))=some y∧OkW Tryz.prog 23 y.1:=hf 1 _ rfl
 clear hf h
 rw[cells22]at h0
 rw[cells23]at h1
 suffices key:∃p:LProg,goodP p∧LRel Tryz.prog (Go.Ax.frozen W) m p.cells a.toList by
  obtain⟨p,h1,h2⟩:=key
  exact⟨p,h1,Y0o h2⟩
 generalize a.toList=cs at hl h0 h1
 obtain⟨c0,c1,rfl⟩:=len2' cs hl
 simp only[Y3V,Y1Q,Y3M,Y3W]at h0 h1
 obtain⟨t,ht⟩:=x8P (m:=m) h0 w0
 obtain⟨E,hE,gE⟩:=q9f (m:=m) (f:=LFunc.cells) (good:=fun q=>∀b∈q.blocks.list,x7D b) Tryz.underlying23 x8q (by omega) (fun n cs y h w=>func_rel (m:=m) h w) h1 w1
 rw[z6G]at hE
 refine⟨⟨t,isL E⟩,fun f hf=> ?_,.cons ht (.cons hE .nil)⟩
 obtain⟨l,hl,hxl⟩:=x3b hf
 exact(gE l hl).2 f hxl
theorem goodP.ops{p:LProg}(h:goodP p):OpsP p:=⟨fun f hf=>⟨fun b hb x hx=>(h f hf b hb).2 x hx⟩⟩
end
end Go.Ax
