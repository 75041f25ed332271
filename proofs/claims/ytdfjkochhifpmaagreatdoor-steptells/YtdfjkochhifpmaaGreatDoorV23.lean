import Derived.Test.YtdfjkochhifpmaaGreatDoorV22
set_option linter.unusedSimpArgs false
set_option linter.unusedVariables false
set_option maxRecDepth 20000
noncomputable section
namespace Go.Ax
open Go.Proofs
attribute [local irreducible] TW TO CallsT PureC
variable{F:Nat→Option Obj}{gl:Nat→AV}{K:Knob}{S S':Nat→Prop}{p:LProg}{f:Nat}{ks:Sl Int}{ps:Sl (Int×Int)}{rl:List Int}
set_option maxHeartbeats 2000000 in
theorem z1I(hP:POk Tryz.prog F gl K)(hX:∀f a,K.ext f a=none)(hT:OkT p.types.list)(x:LIns)(L:Sl Int)(hL:∀t∈L.list, -1≤t∧t<p.types.list.length)(hlen:L.list.length<1000000)
    (hop:x.op=14∨x.op=15∨x.op=16∨x.op=17) (hl1:1≤L.list.length) (hl2:x.op=15∨x.op=17→2≤L.list.length) (hn:x.op=14→0≤x.n) (hty:x.op≠17→ -1≤x.type∧x.type<p.types.list.length):
    PureC Tryz.prog F q6H [fnV p f ks ps rl,.agg x.cells,L.av cI] (.bool (z5G p.types.list x L.list)):=by
  obtain⟨l0,hl0⟩:=q0b (show 0<L.list.length by omega)
  obtain⟨b1,b2⟩:=hL l0 (Y0N hl0)
  have hd0:=Y2G (show 0<L.list.length by omega)
  have hLv:=q0j (e:=cI) (show 0<L.list.length by omega)
  have e1:=x2S (p:=p) (f:=f) (ks:=ks) (ps:=ps) (rl:=rl) hP hX b1 b2
  obtain⟨b3,b4⟩:=x7Z hT b2
  have eS:=z3T (p:=p) (f:=f) (ks:=ks) (ps:=ps) (rl:=rl) hP hX b3 b4
  have hg0:L.list.getD 0 0=l0:=by simp[Y3l,hl0]
  have hP0:=hP
  have hX0:=hX
  replace hP:=x4X (p:=p) (f:=f) (ks:=ks) (ps:=ps) (rl:=rl) hP0 hX0
  replace hX:∀f' a,(K.lendF q0k (isFn p f ks ps rl)).ext f' a=none:=hX0
  have o1:=fun a=>x5g (K:=K) (p:=p) (f:=f) (ks:=ks) (ps:=ps) (rl:=rl) (a:=a)
  refine zP2 z5b ?_
  rcases hop with h14|h15|h16|h17
  · obtain⟨b5,b6⟩:=hty (by omega)
    have ep:=x0U (p:=p) (f:=f) (ks:=ks) (ps:=ps) (rl:=rl) hP0 hX0 hT b1 b2 b5 b6 (hn h14)
    have c1:=fun T k q hq=>z3I (gl:=gl) (K:=K) (p:=p) (f:=f) (ks:=ks) (ps:=ps) (rl:=rl) (T:=T) (kd:=4) (k:=k) (q:=q) b3 b4 hq
    have hm:z5G p.types.list x L.list=(isT p.types.list (to12 p.types.list l0) 4&&(!decide (q7d p.types.list (to12 p.types.list l0) x.n= -1)&&decide (to12 p.types.list x.type=q7d p.types.list (to12 p.types.list l0) x.n))):=by
      unfold z5G z3s
      rw[Y0e h14,hg0]
      cases hi:isT p.types.list (to12 p.types.list l0) 4 with
      |false=>rfl
      |true=>rw[partS4 hT hi (hn h14)]
    rw[hm]
    generalize to12 p.types.list l0=s at*
    refine zR0f @h14 ?_
    refine Y2U (fun g=>g.get 0=some (.cells q1e x.cells)∧1≤g.nx) ⟨by simp[h14],by simp⟩ fun g hg=> ?_
    obtain⟨hg,hgn⟩:=hg
    dsimp only[q1e,LIns.cells]at hg
    dsimp only[q0x]at c1
    simp only[fnV]at c1 e1 ep
    cases hi:isT p.types.list s 4 with
    | false=>
      rw[hi]at c1
      skip
      refine Y3d hP [(q0S,[fnV p f ks ps rl,.int .i64 l0],.int .i64 s)] (fun e he=>by rcases Y2k.1 he with rfl|he;exact e1;cases he) [0,0,0,4,12,30,62,127,255,511,511,1535,3583,511,8703,511,33279,131071,262143,524287] (by kernel_rfl) (by kernel_rfl) (by simp[hX,hg,hl0,hLv,hd0,o1,c1,hgn,(show¬g.nx=0 by omega),natZ,natO,q0k,q0T,q0U,q0S,q1m,q1n,oneD,fpAt,fpOf,q0z,ldOf,q0V,q0n,FP.clash,FP.hard,FP.soft,overlap,inR,q0E,q1J,Nat.testBit,show¬g.nx+1≤g.nx by omega,show¬g.nx+2≤g.nx by omega,show¬g.nx+2≤g.nx+1 by omega,show¬g.nx+3≤g.nx by omega,show¬g.nx+3≤g.nx+1 by omega,show¬g.nx+3≤g.nx+2 by omega]<;>rfl) ?_
      repeat' (refine q1g (fun hb=> ?_) (fun hb=> ?_)<;>(try simp only[Y3e,Y1k,Y3f]at hb)<;>refine q3i (by simp[hb,hX,hg,hl0,hLv,hd0,o1,c1,hgn,(show¬g.nx=0 by omega),natZ,natO,q0k,q0T,q0U,q0S,q1m,q1n,oneD,fpAt,fpOf,q0z,ldOf,q0V,q0n,FP.clash,FP.hard,FP.soft,overlap,inR,q0E,q1J,Nat.testBit,show¬g.nx+1≤g.nx by omega,show¬g.nx+2≤g.nx by omega,show¬g.nx+2≤g.nx+1 by omega,show¬g.nx+3≤g.nx by omega,show¬g.nx+3≤g.nx+1 by omega,show¬g.nx+3≤g.nx+2 by omega]<;>rfl) ?_)
      all_goals dsimp only[okD,q0a]
      refine zA0 ?_
      simp
    | true=>
      rw[hi]at c1
      skip
      refine Y3d hP [(q0S,[fnV p f ks ps rl,.int .i64 l0],.int .i64 s),(q1Y,[fnV p f ks ps rl,.int .i64 l0,.int .i64 x.type,.int .i64 x.n],.bool (!decide (q7d p.types.list s x.n= -1)&&decide (to12 p.types.list x.type=q7d p.types.list s x.n)))] (fun e he=>by rcases Y2k.1 he with rfl|he;exact e1;rcases Y2k.1 he with rfl|he;exact ep;cases he) [0,0,0,4,12,30,62,127,255,511,511,1535,3583,511,8703,511,33279,131071,262143,524287] (by kernel_rfl) (by kernel_rfl) (by simp[hX,hg,hl0,hLv,hd0,o1,c1,hgn,(show¬g.nx=0 by omega),natZ,natO,q0k,q0T,q0U,q0S,q1m,q1n,q1Y,q5W,q5X,oneD,fpAt,fpOf,q0z,ldOf,q0V,q0n,FP.clash,FP.hard,FP.soft,overlap,inR,q0E,q1J,Nat.testBit,show¬g.nx+1≤g.nx by omega,show¬g.nx+2≤g.nx by omega,show¬g.nx+2≤g.nx+1 by omega,show¬g.nx+3≤g.nx by omega,show¬g.nx+3≤g.nx+1 by omega,show¬g.nx+3≤g.nx+2 by omega]<;>rfl) ?_
      repeat' (refine q1g (fun hb=> ?_) (fun hb=> ?_)<;>(try simp only[Y3e,Y1k,Y3f]at hb)<;>refine q3i (by simp[hb,hX,hg,hl0,hLv,hd0,o1,c1,hgn,(show¬g.nx=0 by omega),natZ,natO,q0k,q0T,q0U,q0S,q1m,q1n,q1Y,q5W,q5X,oneD,fpAt,fpOf,q0z,ldOf,q0V,q0n,FP.clash,FP.hard,FP.soft,overlap,inR,q0E,q1J,Nat.testBit,show¬g.nx+1≤g.nx by omega,show¬g.nx+2≤g.nx by omega,show¬g.nx+2≤g.nx+1 by omega,show¬g.nx+3≤g.nx by omega,show¬g.nx+3≤g.nx+1 by omega,show¬g.nx+3≤g.nx+2 by omega]<;>rfl) ?_)
      all_goals dsimp only[okD,q0a]
      refine zA0 ?_
      simp
  · obtain⟨b5,b6⟩:=hty (by omega)
    have hll:=hl2 (.inl h15)
    obtain⟨l1,hl1'⟩:=q0b (show 1<L.list.length by omega)
    obtain⟨b7,b8⟩:=hL l1 (Y0N hl1')
    have hd1:=Y2G (show 1<L.list.length by omega)
    have hg1:L.list.getD 1 0=l1:=by simp[Y3l,hl1']
    have ep:=x0U (p:=p) (f:=f) (ks:=ks) (ps:=ps) (rl:=rl) hP0 hX0 hT b1 b2 b5 b6 (Int.le_refl 0)
    have c1:=fun T k q hq=>z3I (gl:=gl) (K:=K) (p:=p) (f:=f) (ks:=ks) (ps:=ps) (rl:=rl) (T:=T) (kd:=5) (k:=k) (q:=q) b3 b4 hq
    have c2:=fun T k q hq=>z3I (gl:=gl) (K:=K) (p:=p) (f:=f) (ks:=ks) (ps:=ps) (rl:=rl) (T:=T) (kd:=1) (k:=k) (q:=q) b7 b8 hq
    have hm:z5G p.types.list x L.list=(isT p.types.list (to12 p.types.list l0) 5&&(isT p.types.list l1 1&&(!decide (q7d p.types.list (to12 p.types.list l0) 0= -1)&&decide (to12 p.types.list x.type=q7d p.types.list (to12 p.types.list l0) 0)))):=by
      unfold z5G z3s
      rw[Y0c (by omega),Y0e h15,hg0,hg1]
      cases hi:isT p.types.list (to12 p.types.list l0) 5 with
      |false=>rfl
      |true=>rw[partS5 hT hi]
    rw[hm]
    generalize to12 p.types.list l0=s at*
    refine zR0f @h15 ?_
    refine Y2U (fun g=>g.get 0=some (.cells q1e x.cells)∧1≤g.nx) ⟨by simp[h15],by simp⟩ fun g hg=> ?_
    obtain⟨hg,hgn⟩:=hg
    dsimp only[q1e,LIns.cells]at hg
    dsimp only[q0x]at c1 c2
    simp only[fnV]at c1 c2 e1 ep
    cases hi:isT p.types.list s 5 with
    | false=>
      rw[hi]at c1
      skip
      refine Y3d hP [(q0S,[fnV p f ks ps rl,.int .i64 l0],.int .i64 s)] (fun e he=>by rcases Y2k.1 he with rfl|he;exact e1;cases he) [0,0,0,4,12,30,62,127,255,511,511,1535,3583,7679,16383,32767,65535,131071,131071,393215,917503,131071,2228223,8388607,16777215,33554431] (by kernel_rfl) (by kernel_rfl) (by simp[hX,hl1',hd1,c2,hg,hl0,hLv,hd0,o1,c1,hgn,(show¬g.nx=0 by omega),natZ,natO,q0k,q0T,q0U,q0S,q1m,q1n,oneD,fpAt,fpOf,q0z,ldOf,q0V,q0n,FP.clash,FP.hard,FP.soft,overlap,inR,q0E,q1J,Nat.testBit,show¬g.nx+1≤g.nx by omega,show¬g.nx+2≤g.nx by omega,show¬g.nx+2≤g.nx+1 by omega,show¬g.nx+3≤g.nx by omega,show¬g.nx+3≤g.nx+1 by omega,show¬g.nx+3≤g.nx+2 by omega]<;>rfl) ?_
      repeat' (refine q1g (fun hb=> ?_) (fun hb=> ?_)<;>(try simp only[Y3e,Y1k,Y3f]at hb)<;>refine q3i (by simp[hb,hX,hl1',hd1,c2,hg,hl0,hLv,hd0,o1,c1,hgn,(show¬g.nx=0 by omega),natZ,natO,q0k,q0T,q0U,q0S,q1m,q1n,oneD,fpAt,fpOf,q0z,ldOf,q0V,q0n,FP.clash,FP.hard,FP.soft,overlap,inR,q0E,q1J,Nat.testBit,show¬g.nx+1≤g.nx by omega,show¬g.nx+2≤g.nx by omega,show¬g.nx+2≤g.nx+1 by omega,show¬g.nx+3≤g.nx by omega,show¬g.nx+3≤g.nx+1 by omega,show¬g.nx+3≤g.nx+2 by omega]<;>rfl) ?_)
      all_goals dsimp only[okD,q0a]
      refine zA0 ?_
      simp
    | true=>
      rw[hi]at c1
      cases hi1:isT p.types.list l1 1 with
      | false=>
        rw[hi1]at c2
        skip
        refine Y3d hP [(q0S,[fnV p f ks ps rl,.int .i64 l0],.int .i64 s)] (fun e he=>by rcases Y2k.1 he with rfl|he;exact e1;cases he) [0,0,0,4,12,30,62,127,255,511,511,1535,3583,7679,16383,32767,65535,131071,131071,393215,917503,131071,2228223,8388607,16777215,33554431] (by kernel_rfl) (by kernel_rfl) (by simp[hX,hl1',hd1,c2,hg,hl0,hLv,hd0,o1,c1,hgn,(show¬g.nx=0 by omega),natZ,natO,q0k,q0T,q0U,q0S,q1m,q1n,oneD,fpAt,fpOf,q0z,ldOf,q0V,q0n,FP.clash,FP.hard,FP.soft,overlap,inR,q0E,q1J,Nat.testBit,show¬g.nx+1≤g.nx by omega,show¬g.nx+2≤g.nx by omega,show¬g.nx+2≤g.nx+1 by omega,show¬g.nx+3≤g.nx by omega,show¬g.nx+3≤g.nx+1 by omega,show¬g.nx+3≤g.nx+2 by omega]<;>rfl) ?_
        repeat' (refine q1g (fun hb=> ?_) (fun hb=> ?_)<;>(try simp only[Y3e,Y1k,Y3f]at hb)<;>refine q3i (by simp[hb,hX,hl1',hd1,c2,hg,hl0,hLv,hd0,o1,c1,hgn,(show¬g.nx=0 by omega),natZ,natO,q0k,q0T,q0U,q0S,q1m,q1n,oneD,fpAt,fpOf,q0z,ldOf,q0V,q0n,FP.clash,FP.hard,FP.soft,overlap,inR,q0E,q1J,Nat.testBit,show¬g.nx+1≤g.nx by omega,show¬g.nx+2≤g.nx by omega,show¬g.nx+2≤g.nx+1 by omega,show¬g.nx+3≤g.nx by omega,show¬g.nx+3≤g.nx+1 by omega,show¬g.nx+3≤g.nx+2 by omega]<;>rfl) ?_)
        all_goals dsimp only[okD,q0a]
        refine zA0 ?_
        simp
      | true=>
        rw[hi1]at c2
        skip
        refine Y3d hP [(q0S,[fnV p f ks ps rl,.int .i64 l0],.int .i64 s),(q1Y,[fnV p f ks ps rl,.int .i64 l0,.int .i64 x.type,.int .i64 0],.bool (!decide (q7d p.types.list s 0= -1)&&decide (to12 p.types.list x.type=q7d p.types.list s 0)))] (fun e he=>by rcases Y2k.1 he with rfl|he;exact e1;rcases Y2k.1 he with rfl|he;exact ep;cases he) [0,0,0,4,12,30,62,127,255,511,511,1535,3583,7679,16383,32767,65535,131071,131071,393215,917503,131071,2228223,8388607,16777215,33554431] (by kernel_rfl) (by kernel_rfl) (by simp[hX,hl1',hd1,c2,hg,hl0,hLv,hd0,o1,c1,hgn,(show¬g.nx=0 by omega),natZ,natO,q0k,q0T,q0U,q0S,q1m,q1n,q1Y,q5W,q5X,oneD,fpAt,fpOf,q0z,ldOf,q0V,q0n,FP.clash,FP.hard,FP.soft,overlap,inR,q0E,q1J,Nat.testBit,show¬g.nx+1≤g.nx by omega,show¬g.nx+2≤g.nx by omega,show¬g.nx+2≤g.nx+1 by omega,show¬g.nx+3≤g.nx by omega,show¬g.nx+3≤g.nx+1 by omega,show¬g.nx+3≤g.nx+2 by omega]<;>rfl) ?_
        repeat' (refine q1g (fun hb=> ?_) (fun hb=> ?_)<;>(try simp only[Y3e,Y1k,Y3f]at hb)<;>refine q3i (by simp[hb,hX,hl1',hd1,c2,hg,hl0,hLv,hd0,o1,c1,hgn,(show¬g.nx=0 by omega),natZ,natO,q0k,q0T,q0U,q0S,q1m,q1n,q1Y,q5W,q5X,oneD,fpAt,fpOf,q0z,ldOf,q0V,q0n,FP.clash,FP.hard,FP.soft,overlap,inR,q0E,q1J,Nat.testBit,show¬g.nx+1≤g.nx by omega,show¬g.nx+2≤g.nx by omega,show¬g.nx+2≤g.nx+1 by omega,show¬g.nx+3≤g.nx by omega,show¬g.nx+3≤g.nx+1 by omega,show¬g.nx+3≤g.nx+2 by omega]<;>rfl) ?_)
        all_goals dsimp only[okD,q0a]
        refine zA0 ?_
        simp
  · obtain⟨b5,b6⟩:=hty (by omega)
    have hm:z5G p.types.list x L.list=(q2J p.types.list (to12 p.types.list l0)&&decide (x.type=to12 p.types.list l0)):=by
      unfold z5G
      rw[Y0c (by omega),Y0c (by omega),Y0e h16,hg0]
    rw[hm]
    generalize to12 p.types.list l0=s at*
    refine zR0f @h16 ?_
    refine Y2U (fun g=>g.get 0=some (.cells q1e x.cells)∧1≤g.nx) ⟨by simp[h16],by simp⟩ fun g hg=> ?_
    obtain⟨hg,hgn⟩:=hg
    dsimp only[q1e,LIns.cells]at hg
    simp only[fnV]at e1 eS
    cases hi:q2J p.types.list s with
    | false=>
      rw[hi]at eS
      refine zHf (zc @hg (zc @hl0 (zc @hLv (zc @hd0 (zc @natZ (zc @natO (zc @q1m (zc @q1n (zc @q4u @q4w))))))))) (tl 204 [fnV p f ks ps rl,.int .i64 l0] (.int .i64 s) (e1) (tl 180 [fnV p f ks ps rl,.int .i64 s] (.bool false) (eS) t0)) (zw [0,0,0,4,12,30,63,127,255,511,255,255,2303,6399,15615,32767,65535,131071]) ?_
      refine zA0 ?_
      simp
    | true=>
      rw[hi]at eS
      refine zHf (zc @hg (zc @hl0 (zc @hLv (zc @hd0 (zc @natZ (zc @natO (zc @q1m (zc @q1n (zc @q4u @q4w))))))))) (tl 204 [fnV p f ks ps rl,.int .i64 l0] (.int .i64 s) (e1) (tl 180 [fnV p f ks ps rl,.int .i64 s] (.bool true) (eS) t0)) (zw [0,0,0,4,12,30,63,127,255,511,255,255,2303,6399,15615,32767,65535,131071]) ?_
      refine zA0 ?_
      simp
  · have hll:=hl2 (.inr h17)
    obtain⟨l1,hl1'⟩:=q0b (show 1<L.list.length by omega)
    have hd1:=Y2G (show 1<L.list.length by omega)
    have hg1:L.list.getD 1 0=l1:=by simp[Y3l,hl1']
    have hm:z5G p.types.list x L.list=(q2J p.types.list (to12 p.types.list l0)&&decide (l1=to12 p.types.list l0)):=by
      unfold z5G
      rw[Y0c (by omega),Y0c (by omega),Y0c (by omega),hg0,hg1]
    rw[hm]
    generalize to12 p.types.list l0=s at*
    refine zR0f @h17 ?_
    refine Y2U (fun g=>g.get 0=some (.cells q1e x.cells)∧1≤g.nx) ⟨by simp[h17],by simp⟩ fun g hg=> ?_
    obtain⟨hg,hgn⟩:=hg
    dsimp only[q1e,LIns.cells]at hg
    simp only[fnV]at e1 eS
    cases hi:q2J p.types.list s with
    | false=>
      rw[hi]at eS
      refine zHf (zc @hg (zc @hl0 (zc @hLv (zc @hd0 (zc @hl1' (zc @hd1 (zc @natZ (zc @natO (zc @q1m (zc @q1n (zc @q4u @q4w))))))))))) (tl 204 [fnV p f ks ps rl,.int .i64 l0] (.int .i64 s) (e1) (tl 180 [fnV p f ks ps rl,.int .i64 s] (.bool false) (eS) t0)) (zw [0,0,0,4,12,30,63,127,255,511,1023,255,255,4351,12543,30975,65535,131071,262143]) ?_
      refine zA0 ?_
      simp
    | true=>
      rw[hi]at eS
      refine zHf (zc @hg (zc @hl0 (zc @hLv (zc @hd0 (zc @hl1' (zc @hd1 (zc @natZ (zc @natO (zc @q1m (zc @q1n (zc @q4u @q4w))))))))))) (tl 204 [fnV p f ks ps rl,.int .i64 l0] (.int .i64 s) (e1) (tl 180 [fnV p f ks ps rl,.int .i64 s] (.bool true) (eS) t0)) (zw [0,0,0,4,12,30,63,127,255,511,1023,255,255,4351,12543,30975,65535,131071,262143]) ?_
      refine zA0 ?_
      simp
theorem x5h(hP:POk Tryz.prog F gl K)(hX:∀f a,K.ext f a=none){kd:Int}:PureC Tryz.prog F q0k [fnV p f ks ps rl,.int .u8 kd,.nilsl] (.bool true):=
 z9e (p:=p) (f:=f) (ks:=ks) (ps:=ps) (rl:=rl) hP hX (kd:=kd) .nil (fun x hx=>by simp[Sl.list]at hx) (by simp[Sl.list])
theorem z1w(hP:POk Tryz.prog F gl K)(hX:∀f a,K.ext f a=none){kd a b:Int}(h1: -1≤a∧a<p.types.list.length)(h2: -1≤b∧b<p.types.list.length):
  PureC Tryz.prog F q0k [fnV p f ks ps rl,.int .u8 kd,.isl [[.int .i64 a],[.int .i64 b]]] (.bool (isT p.types.list a kd&&isT p.types.list b kd)):=by
 have:=z9e (p:=p) (f:=f) (ks:=ks) (ps:=ps) (rl:=rl) hP hX (kd:=kd) (.mk [a,b]) (fun x hx=>by simp[Sl.list]at hx;rcases hx with rfl|rfl<;>assumption) (by simp[Sl.list])
 simpa [Sl.list,Sl.av]using this
theorem right1_qt(hP:POk Tryz.prog F gl K){t:Int}{x:LIns}{q:Nat}{h:Hp}(hq:h.get q=some (.cells q1e x.cells)):
  Qt Tryz.prog F h (.bool (!decide (t=x.type))) q3U [.int .i64 t,.ptr q 0]:=by
 dsimp only[q1e,LIns.cells]at hq
 refine Y2y hP q0f z4l rfl rfl ?_
 refine zA0f @hq ?_
 exact⟨by simp,.refl _⟩
set_option maxHeartbeats 8000000 in
theorem x2a(hP:POk Tryz.prog F gl K)(hX:∀f a,K.ext f a=none)(hT:OkT p.types.list)(hsg:∀g∈p.funcs.list,0≤g.sig∧g.sig<p.types.list.length){y:LFunc}(x:LIns)(I:InsOk p y x)(L:List Int)(hlen:L.length=(q1c x).length)(hlm:L.length<1000000)(hlt:∀t∈L, -1≤t∧t<p.types.list.length):
    PureC Tryz.prog F q7i [fnV p f ks ps rl,.agg x.cells,(slL L).av cI] (.bool (q0r p x L)):=by
  have hop:=I.op
  obtain⟨t0,t1⟩:=I.type
  have ei:=fun kd=>q5J (p:=p) (f:=f) (ks:=ks) (ps:=ps) (rl:=rl) (kd:=kd) hP hX (show-1≤x.type by omega) t1
  have eL:=fun(a:Int) (ha:a∈L) kd=>q5J (p:=p) (f:=f) (ks:=ks) (ps:=ps) (rl:=rl) (kd:=kd) hP hX (hlt a ha).1 (hlt a ha).2
  have eS:=z3T (p:=p) (f:=f) (ks:=ks) (ps:=ps) (rl:=rl) hP hX (show-1≤x.type by omega) t1
  have hP0:=hP
  have hX0:=hX
  replace hP:=x4X (p:=p) (f:=f) (ks:=ks) (ps:=ps) (rl:=rl) hP0 hX0
  replace hX:∀f' a,(K.lendF q0k (isFn p f ks ps rl)).ext f' a=none:=hX0
  have o1:=fun a=>x5g (K:=K) (p:=p) (f:=f) (ks:=ks) (ps:=ps) (rl:=rl) (a:=a)
  have c1:=fun T kd k q hq=>z3I (gl:=gl) (K:=K) (p:=p) (f:=f) (ks:=ks) (ps:=ps) (rl:=rl) (T:=T) (kd:=kd) (k:=k) (q:=q) (show-1≤x.type by omega) t1 hq
  dsimp only[q0x]at c1
  simp only[fnV]at c1
  refine zP2 z5W ?_
  refine zG ?_
  refine Y2U (fun g=>g.get 0=some (.cells q1e x.cells)∧1≤g.nx) ⟨by simp,by simp⟩ fun g hg=> ?_
  obtain⟨hg,hgn⟩:=hg
  have hg':=hg
  dsimp only[q1e]at hg
  have hcs:x.op=1∨x.op=2∨x.op=3∨x.op=4∨x.op=5∨x.op=6∨x.op=7∨x.op=8∨x.op=9∨x.op=10∨x.op=11∨x.op=12∨x.op=13∨x.op=14∨x.op=15∨x.op=16∨x.op=17∨x.op=18∨x.op=19∨x.op=20∨x.op=21∨x.op=22:=by omega
  rcases hcs with h|h|h|h|h|h|h|h|h|h|h|h|h|h|h|h|h|h|h|h|h|h
  · have hL:L= []:=Y1y (by rw[hlen];simp[q1c,q2e,two6,q0C,h])
    subst hL
    have e1:=x5h (p:=p) (f:=f) (ks:=ks) (ps:=ps) (rl:=rl) (kd:=1) hP0 hX0
    have e2:=ei 1
    have hv:(slL []).av cI=AV.nilsl:=rfl
    repeat' first|refine zA1f (zc @hg (zc @h @hv)) q0g e1 ?_|(refine Y3b hP q0g (e2) ?_ rfl rfl rfl (by simp<;>rfl) ?_ rfl ?_;(focus(simp;done));(focus(repeat' first|exact Y2Y|apply Y3a|refine Y3T (by simp[hg,h,hv]<;>rfl) ?_|refine Y2Z q4a ?_);done);refine Y2X hP (by simp[hg,h,hv]<;>rfl) ?_;dsimp only[goK])
    simp[q0r,h]
  · have e2:=ei 2
    have e3:=ei 3
    cases h2:isT p.types.list x.type 2 with
    | true=>
      rw[h2]at e2
      repeat' first|refine zA0f (zc @hg (zc @h (show¬g.nx=0 by omega))) ?_|(refine Y3b hP q0g (e2) ?_ rfl rfl rfl (by simp<;>rfl) ?_ rfl ?_;(focus(simp;done));(focus(repeat' first|exact Y2Y|apply Y3a|refine Y3T (by simp[hg,h,(show¬g.nx=0 by omega)]<;>rfl) ?_|refine Y2Z q4a ?_);done);refine Y2X hP (by simp[hg,h,(show¬g.nx=0 by omega)]<;>rfl) ?_;dsimp only[goK])
      all_goals simp_all[q0r]
    | false=>
      rw[h2]at e2
      repeat' first|refine zA0f (zc @hg (zc @h (show¬g.nx=0 by omega))) ?_|(refine Y3b hP q0g (e2) ?_ rfl rfl rfl (by simp<;>rfl) ?_ rfl ?_;(focus(simp;done));(focus(repeat' first|exact Y2Y|apply Y3a|refine Y3T (by simp[hg,h,(show¬g.nx=0 by omega)]<;>rfl) ?_|refine Y2Z q4a ?_);done);refine Y2X hP (by simp[hg,h,(show¬g.nx=0 by omega)]<;>rfl) ?_;dsimp only[goK])|(refine Y3b hP q0g (e3) ?_ rfl rfl rfl (by simp<;>rfl) ?_ rfl ?_;(focus(simp;done));(focus(repeat' first|exact Y2Y|apply Y3a|refine Y3T (by simp[hg,h,(show¬g.nx=0 by omega)]<;>rfl) ?_|refine Y2Z q4a ?_);done);refine Y2X hP (by simp[hg,h,(show¬g.nx=0 by omega)]<;>rfl) ?_;dsimp only[goK])
      all_goals simp_all[q0r]
  · obtain⟨n0,n1⟩:=I.n (.inl h)
    obtain⟨n,hnn⟩:=Y3j n0
    obtain⟨z,hz⟩:=q0b (show n<p.funcs.list.length by omega)
    have hfl:=Y2G (show n<p.funcs.list.length by omega)
    have hfv:=q0j (e:=LFunc.cells) (show 0<p.funcs.list.length by omega)
    have hso:z2q p x.n=z.sig:=by simp[z2q,hnn,hz]
    refine zR0f (zc @hg @h) ?_
    first
      | (skip
         refine Y3c hP [] (fun e he=>by cases he) (by kernel_rfl) (by simp[hX,hg,hnn,hfl,hz,hfv]<;>rfl) ?_
         repeat' (refine q5L (fun hb=> ?_) (fun hb=> ?_)<;>(try simp only[Y3e,Y1k,Y3f]at hb)<;>refine z6v (by simp[hb,hX,hg,hnn,hfl,hz,hfv]<;>rfl) ?_)
         all_goals dsimp only[okQ,q0a])
    refine zA0 ?_
    simp[q0r,h,hso]
  · obtain⟨a,b,rfl⟩:=q7q (L:=L) (by rw[hlen];simp[q1c,q2e,two6,q0C,h])
    have e1:=z1w (p:=p) (f:=f) (ks:=ks) (ps:=ps) (rl:=rl) (kd:=1) hP0 hX0 (hlt a (by simp)) (hlt b (by simp))
    have e2:=ei 1
    have hv:(slL [a,b]).av cI=AV.isl [[.int .i64 a],[.int .i64 b]]:=rfl
    cases h1:(isT p.types.list a 1&&isT p.types.list b 1)with
    | true=>
      rw[h1]at e1
      simp only[Y1X]at h1
      repeat' first|refine zA1f (zc @hg (zc @h @hv)) q0g e1 ?_|(refine Y3b hP q0g (e2) ?_ rfl rfl rfl (by simp<;>rfl) ?_ rfl ?_;(focus(simp;done));(focus(repeat' first|exact Y2Y|apply Y3a|refine Y3T (by simp[hg,h,hv]<;>rfl) ?_|refine Y2Z q4a ?_);done);refine Y2X hP (by simp[hg,h,hv]<;>rfl) ?_;dsimp only[goK])
      simp[q0r,h,h1.1,h1.2]
    | false=>
      rw[h1]at e1
      refine zA1f (zc @hg (zc @h @hv)) q0g e1 ?_
      simp only[q0r,h]
      cases ha:isT p.types.list a 1<;>cases hb:isT p.types.list b 1<;>simp_all
  · obtain⟨a,b,rfl⟩:=q7q (L:=L) (by rw[hlen];simp[q1c,q2e,two6,q0C,h])
    have e1:=z1w (p:=p) (f:=f) (ks:=ks) (ps:=ps) (rl:=rl) (kd:=1) hP0 hX0 (hlt a (by simp)) (hlt b (by simp))
    have e2:=ei 1
    have hv:(slL [a,b]).av cI=AV.isl [[.int .i64 a],[.int .i64 b]]:=rfl
    cases h1:(isT p.types.list a 1&&isT p.types.list b 1)with
    | true=>
      rw[h1]at e1
      simp only[Y1X]at h1
      repeat' first|refine zA1f (zc @hg (zc @h @hv)) q0g e1 ?_|(refine Y3b hP q0g (e2) ?_ rfl rfl rfl (by simp<;>rfl) ?_ rfl ?_;(focus(simp;done));(focus(repeat' first|exact Y2Y|apply Y3a|refine Y3T (by simp[hg,h,hv]<;>rfl) ?_|refine Y2Z q4a ?_);done);refine Y2X hP (by simp[hg,h,hv]<;>rfl) ?_;dsimp only[goK])
      simp[q0r,h,h1.1,h1.2]
    | false=>
      rw[h1]at e1
      refine zA1f (zc @hg (zc @h @hv)) q0g e1 ?_
      simp only[q0r,h]
      cases ha:isT p.types.list a 1<;>cases hb:isT p.types.list b 1<;>simp_all
  · obtain⟨a,b,rfl⟩:=q7q (L:=L) (by rw[hlen];simp[q1c,q2e,two6,q0C,h])
    have e1:=z1w (p:=p) (f:=f) (ks:=ks) (ps:=ps) (rl:=rl) (kd:=1) hP0 hX0 (hlt a (by simp)) (hlt b (by simp))
    have e2:=ei 1
    have hv:(slL [a,b]).av cI=AV.isl [[.int .i64 a],[.int .i64 b]]:=rfl
    cases h1:(isT p.types.list a 1&&isT p.types.list b 1)with
    | true=>
      rw[h1]at e1
      simp only[Y1X]at h1
      repeat' first|refine zA1f (zc @hg (zc @h @hv)) q0g e1 ?_|(refine Y3b hP q0g (e2) ?_ rfl rfl rfl (by simp<;>rfl) ?_ rfl ?_;(focus(simp;done));(focus(repeat' first|exact Y2Y|apply Y3a|refine Y3T (by simp[hg,h,hv]<;>rfl) ?_|refine Y2Z q4a ?_);done);refine Y2X hP (by simp[hg,h,hv]<;>rfl) ?_;dsimp only[goK])
      simp[q0r,h,h1.1,h1.2]
    | false=>
      rw[h1]at e1
      refine zA1f (zc @hg (zc @h @hv)) q0g e1 ?_
      simp only[q0r,h]
      cases ha:isT p.types.list a 1<;>cases hb:isT p.types.list b 1<;>simp_all
  · obtain⟨a,b,rfl⟩:=q7q (L:=L) (by rw[hlen];simp[q1c,q2e,two6,q0C,h])
    have e1:=z1w (p:=p) (f:=f) (ks:=ks) (ps:=ps) (rl:=rl) (kd:=1) hP0 hX0 (hlt a (by simp)) (hlt b (by simp))
    have e2:=ei 1
    have hv:(slL [a,b]).av cI=AV.isl [[.int .i64 a],[.int .i64 b]]:=rfl
    cases h1:(isT p.types.list a 1&&isT p.types.list b 1)with
    | true=>
      rw[h1]at e1
      simp only[Y1X]at h1
      repeat' first|refine zA1f (zc @hg (zc @h @hv)) q0g e1 ?_|(refine Y3b hP q0g (e2) ?_ rfl rfl rfl (by simp<;>rfl) ?_ rfl ?_;(focus(simp;done));(focus(repeat' first|exact Y2Y|apply Y3a|refine Y3T (by simp[hg,h,hv]<;>rfl) ?_|refine Y2Z q4a ?_);done);refine Y2X hP (by simp[hg,h,hv]<;>rfl) ?_;dsimp only[goK])
      simp[q0r,h,h1.1,h1.2]
    | false=>
      rw[h1]at e1
      refine zA1f (zc @hg (zc @h @hv)) q0g e1 ?_
      simp only[q0r,h]
      cases ha:isT p.types.list a 1<;>cases hb:isT p.types.list b 1<;>simp_all
  · obtain⟨a,b,rfl⟩:=q7q (L:=L) (by rw[hlen];simp[q1c,q2e,two6,q0C,h])
    have e1:=z1w (p:=p) (f:=f) (ks:=ks) (ps:=ps) (rl:=rl) (kd:=1) hP0 hX0 (hlt a (by simp)) (hlt b (by simp))
    have e2:=ei 1
    have hv:(slL [a,b]).av cI=AV.isl [[.int .i64 a],[.int .i64 b]]:=rfl
    cases h1:(isT p.types.list a 1&&isT p.types.list b 1)with
    | true=>
      rw[h1]at e1
      simp only[Y1X]at h1
      repeat' first|refine zA1f (zc @hg (zc @h @hv)) q0g e1 ?_|(refine Y3b hP q0g (e2) ?_ rfl rfl rfl (by simp<;>rfl) ?_ rfl ?_;(focus(simp;done));(focus(repeat' first|exact Y2Y|apply Y3a|refine Y3T (by simp[hg,h,hv]<;>rfl) ?_|refine Y2Z q4a ?_);done);refine Y2X hP (by simp[hg,h,hv]<;>rfl) ?_;dsimp only[goK])
      simp[q0r,h,h1.1,h1.2]
    | false=>
      rw[h1]at e1
      refine zA1f (zc @hg (zc @h @hv)) q0g e1 ?_
      simp only[q0r,h]
      cases ha:isT p.types.list a 1<;>cases hb:isT p.types.list b 1<;>simp_all
  · obtain⟨a,b,rfl⟩:=q7q (L:=L) (by rw[hlen];simp[q1c,q2e,two6,q0C,h])
    have e1:=z1w (p:=p) (f:=f) (ks:=ks) (ps:=ps) (rl:=rl) (kd:=1) hP0 hX0 (hlt a (by simp)) (hlt b (by simp))
    have e2:=ei 1
    have hv:(slL [a,b]).av cI=AV.isl [[.int .i64 a],[.int .i64 b]]:=rfl
    cases h1:(isT p.types.list a 1&&isT p.types.list b 1)with
    | true=>
      rw[h1]at e1
      simp only[Y1X]at h1
      repeat' first|refine zA1f (zc @hg (zc @h @hv)) q0g e1 ?_|(refine Y3b hP q0g (e2) ?_ rfl rfl rfl (by simp<;>rfl) ?_ rfl ?_;(focus(simp;done));(focus(repeat' first|exact Y2Y|apply Y3a|refine Y3T (by simp[hg,h,hv]<;>rfl) ?_|refine Y2Z q4a ?_);done);refine Y2X hP (by simp[hg,h,hv]<;>rfl) ?_;dsimp only[goK])
      simp[q0r,h,h1.1,h1.2]
    | false=>
      rw[h1]at e1
      refine zA1f (zc @hg (zc @h @hv)) q0g e1 ?_
      simp only[q0r,h]
      cases ha:isT p.types.list a 1<;>cases hb:isT p.types.list b 1<;>simp_all
  · obtain⟨a,b,rfl⟩:=q7q (L:=L) (by rw[hlen];simp[q1c,q2e,two6,q0C,h])
    have c0:∀T k,(Ctx.of Tryz.prog gl ((K.lendF q0k (isFn p f ks ps rl)).tell T)).prim q0k [fnV p f ks ps rl,.int .u8 2,.isl [[.int .i64 a],[.int .i64 b]]] k=some (.bool (isT p.types.list a 2&&isT p.types.list b 2),k):=fun T k=>by
      have e:((Sl.mk [a,b]).list.all fun t=>isT p.types.list t 2)=(isT p.types.list a 2&&isT p.types.list b 2):=by simp[Sl.list]
      rw[←e]
      exact x6E (gl:=gl) (K:=K) (p:=p) (f:=f) (ks:=ks) (ps:=ps) (rl:=rl) (T:=T) (kd:=2) (k:=k) (L:=.mk [a,b]) hlt (by simp[Sl.list])
    simp only[fnV]at c0
    have hv:(slL [a,b]).av cI=AV.isl [[.int .i64 a],[.int .i64 b]]:=rfl
    have hr:q0r p x [a,b]=((isT p.types.list a 2&&isT p.types.list b 2)&&(decide (a=b)&&isT p.types.list x.type 1)):=by
      simp only[q0r,h]
      by_cases hab:a=b
      ·subst hab;simp
      ·simp[hab]
    rw[hr]
    refine zR0f (zc @hg @h) ?_
    cases h1:(isT p.types.list a 2&&isT p.types.list b 2)with
    | false=>
      simp only[h1]at c0
      skip
      refine Y3d hP [] (fun e he=>by cases he) [0,0,3,7,15,31,63,15,143,399,1023,2047,4095,8191,8191,24575,57343,131071,262143,524287] (by kernel_rfl) (by kernel_rfl) (by simp[hX,hv,c0,hg,hgn,(show¬g.nx=0 by omega),natZ,natO,o1,c1,q0k,q0T,q0U,oneD,fpAt,fpOf,q0z,ldOf,q0V,q0n,FP.clash,FP.hard,FP.soft,overlap,inR,q0E,q1J,Nat.testBit,show¬g.nx+1≤g.nx by omega,show¬g.nx+2≤g.nx by omega,show¬g.nx+2≤g.nx+1 by omega,show¬g.nx+3≤g.nx by omega,show¬g.nx+3≤g.nx+1 by omega,show¬g.nx+3≤g.nx+2 by omega]<;>rfl) ?_
      repeat' (refine q1g (fun hb=> ?_) (fun hb=> ?_)<;>(try simp only[Y3e,Y1k,Y3f]at hb)<;>refine q3i (by simp[hb,hX,hv,c0,hg,hgn,(show¬g.nx=0 by omega),natZ,natO,o1,c1,q0k,q0T,q0U,oneD,fpAt,fpOf,q0z,ldOf,q0V,q0n,FP.clash,FP.hard,FP.soft,overlap,inR,q0E,q1J,Nat.testBit,show¬g.nx+1≤g.nx by omega,show¬g.nx+2≤g.nx by omega,show¬g.nx+2≤g.nx+1 by omega,show¬g.nx+3≤g.nx by omega,show¬g.nx+3≤g.nx+1 by omega,show¬g.nx+3≤g.nx+2 by omega]<;>rfl) ?_)
      all_goals dsimp only[okD,q0a]
      refine zA0 ?_
      simp
    | true=>
      simp only[h1]at c0
      by_cases hab:a=b
      · subst hab
        cases h2:isT p.types.list x.type 1 with
        | false=>
          have c2:=fun T k q hq=>c1 T 1 k q hq
          rw[h2]at c2
          skip
          refine Y3d hP [] (fun e he=>by cases he) [0,0,3,7,15,31,63,15,143,399,1023,2047,4095,8191,8191,24575,57343,131071,262143,524287] (by kernel_rfl) (by kernel_rfl) (by simp[hX,hv,c0,c2,hg,hgn,(show¬g.nx=0 by omega),natZ,natO,o1,q0k,q0T,q0U,oneD,fpAt,fpOf,q0z,ldOf,q0V,q0n,FP.clash,FP.hard,FP.soft,overlap,inR,q0E,q1J,Nat.testBit,show¬g.nx+1≤g.nx by omega,show¬g.nx+2≤g.nx by omega,show¬g.nx+2≤g.nx+1 by omega,show¬g.nx+3≤g.nx by omega,show¬g.nx+3≤g.nx+1 by omega,show¬g.nx+3≤g.nx+2 by omega]<;>rfl) ?_
          repeat' (refine q1g (fun hb=> ?_) (fun hb=> ?_)<;>(try simp only[Y3e,Y1k,Y3f]at hb)<;>refine q3i (by simp[hb,hX,hv,c0,c2,hg,hgn,(show¬g.nx=0 by omega),natZ,natO,o1,q0k,q0T,q0U,oneD,fpAt,fpOf,q0z,ldOf,q0V,q0n,FP.clash,FP.hard,FP.soft,overlap,inR,q0E,q1J,Nat.testBit,show¬g.nx+1≤g.nx by omega,show¬g.nx+2≤g.nx by omega,show¬g.nx+2≤g.nx+1 by omega,show¬g.nx+3≤g.nx by omega,show¬g.nx+3≤g.nx+1 by omega,show¬g.nx+3≤g.nx+2 by omega]<;>rfl) ?_)
          all_goals dsimp only[okD,q0a]
          refine zA0 ?_
          simp
        | true=>
          have c2:=fun T k q hq=>c1 T 1 k q hq
          rw[h2]at c2
          skip
          refine Y3d hP [] (fun e he=>by cases he) [0,0,3,7,15,31,63,15,143,399,1023,2047,4095,8191,8191,24575,57343,131071,262143,524287] (by kernel_rfl) (by kernel_rfl) (by simp[hX,hv,c0,c2,hg,hgn,(show¬g.nx=0 by omega),natZ,natO,o1,q0k,q0T,q0U,oneD,fpAt,fpOf,q0z,ldOf,q0V,q0n,FP.clash,FP.hard,FP.soft,overlap,inR,q0E,q1J,Nat.testBit,show¬g.nx+1≤g.nx by omega,show¬g.nx+2≤g.nx by omega,show¬g.nx+2≤g.nx+1 by omega,show¬g.nx+3≤g.nx by omega,show¬g.nx+3≤g.nx+1 by omega,show¬g.nx+3≤g.nx+2 by omega]<;>rfl) ?_
          repeat' (refine q1g (fun hb=> ?_) (fun hb=> ?_)<;>(try simp only[Y3e,Y1k,Y3f]at hb)<;>refine q3i (by simp[hb,hX,hv,c0,c2,hg,hgn,(show¬g.nx=0 by omega),natZ,natO,o1,q0k,q0T,q0U,oneD,fpAt,fpOf,q0z,ldOf,q0V,q0n,FP.clash,FP.hard,FP.soft,overlap,inR,q0E,q1J,Nat.testBit,show¬g.nx+1≤g.nx by omega,show¬g.nx+2≤g.nx by omega,show¬g.nx+2≤g.nx+1 by omega,show¬g.nx+3≤g.nx by omega,show¬g.nx+3≤g.nx+1 by omega,show¬g.nx+3≤g.nx+2 by omega]<;>rfl) ?_)
          all_goals dsimp only[okD,q0a]
          refine zA0 ?_
          simp
      · skip
        refine Y3d hP [] (fun e he=>by cases he) [0,0,3,7,15,31,63,15,143,399,1023,2047,4095,8191,8191,24575,57343,131071,262143,524287] (by kernel_rfl) (by kernel_rfl) (by simp[hX,hv,c0,hab,hg,hgn,(show¬g.nx=0 by omega),natZ,natO,o1,c1,q0k,q0T,q0U,oneD,fpAt,fpOf,q0z,ldOf,q0V,q0n,FP.clash,FP.hard,FP.soft,overlap,inR,q0E,q1J,Nat.testBit,show¬g.nx+1≤g.nx by omega,show¬g.nx+2≤g.nx by omega,show¬g.nx+2≤g.nx+1 by omega,show¬g.nx+3≤g.nx by omega,show¬g.nx+3≤g.nx+1 by omega,show¬g.nx+3≤g.nx+2 by omega]<;>rfl) ?_
        repeat' (refine q1g (fun hb=> ?_) (fun hb=> ?_)<;>(try simp only[Y3e,Y1k,Y3f]at hb)<;>refine q3i (by simp[hb,hX,hv,c0,hab,hg,hgn,(show¬g.nx=0 by omega),natZ,natO,o1,c1,q0k,q0T,q0U,oneD,fpAt,fpOf,q0z,ldOf,q0V,q0n,FP.clash,FP.hard,FP.soft,overlap,inR,q0E,q1J,Nat.testBit,show¬g.nx+1≤g.nx by omega,show¬g.nx+2≤g.nx by omega,show¬g.nx+2≤g.nx+1 by omega,show¬g.nx+3≤g.nx by omega,show¬g.nx+3≤g.nx+1 by omega,show¬g.nx+3≤g.nx+2 by omega]<;>rfl) ?_)
        all_goals dsimp only[okD,q0a]
        refine zA0 ?_
        simp[hab]
  · have e2:=ei 2
    repeat' first|refine zA0f (zc @hg @h) ?_|(refine Y3b hP q0g (e2) ?_ rfl rfl rfl (by simp<;>rfl) ?_ rfl ?_;(focus(simp;done));(focus(repeat' first|exact Y2Y|apply Y3a|refine Y3T (by simp[hg,h]<;>rfl) ?_|refine Y2Z q4a ?_);done);refine Y2X hP (by simp[hg,h]<;>rfl) ?_;dsimp only[goK])
    simp[q0r,h]
  · have e2:=ei 2
    repeat' first|refine zA0f (zc @hg @h) ?_|(refine Y3b hP q0g (e2) ?_ rfl rfl rfl (by simp<;>rfl) ?_ rfl ?_;(focus(simp;done));(focus(repeat' first|exact Y2Y|apply Y3a|refine Y3T (by simp[hg,h]<;>rfl) ?_|refine Y2Z q4a ?_);done);refine Y2X hP (by simp[hg,h]<;>rfl) ?_;dsimp only[goK])
    simp[q0r,h]
  · obtain⟨a,rfl⟩:=z8p (L:=L) (by rw[hlen];simp[q1c,q2e,two6,q0C,h])
    have e1:=eL a (by simp) 2
    have hv:(slL [a]).av cI=AV.isl [[.int .i64 a]]:=rfl
    refine zA1f (zc @hg (zc @h @hv)) q0g e1 ?_
    simp[q0r,h]
  · have hl:L.length=1:=by rw[hlen];simp[q1c,q2e,two6,q0C,h]
    have e2:=z1I (p:=p) (f:=f) (ks:=ks) (ps:=ps) (rl:=rl) hP0 hX0 hT x (slL L) (by rw[q0l];exact hlt) (by rw[q0l];exact hlm) (by omega) (by rw[q0l];omega) (by rw[q0l];omega) (fun h=>(I.field h).1) (fun _=>⟨by omega,t1⟩)
    rw[q0l]at e2
    simp only[LIns.cells,h]at e2
    refine zA1f (zc @hg @h) q4s e2 ?_
    simp[q0r,h]
  · have hl:L.length=2:=by rw[hlen];simp[q1c,q2e,two6,q0C,h]
    have e2:=z1I (p:=p) (f:=f) (ks:=ks) (ps:=ps) (rl:=rl) hP0 hX0 hT x (slL L) (by rw[q0l];exact hlt) (by rw[q0l];exact hlm) (by omega) (by rw[q0l];omega) (by rw[q0l];omega) (fun h=>(I.field h).1) (fun _=>⟨by omega,t1⟩)
    rw[q0l]at e2
    simp only[LIns.cells,h]at e2
    refine zA1f (zc @hg @h) q4s e2 ?_
    simp[q0r,h]
  · have hl:L.length=1:=by rw[hlen];simp[q1c,q2e,two6,q0C,h]
    have e2:=z1I (p:=p) (f:=f) (ks:=ks) (ps:=ps) (rl:=rl) hP0 hX0 hT x (slL L) (by rw[q0l];exact hlt) (by rw[q0l];exact hlm) (by omega) (by rw[q0l];omega) (by rw[q0l];omega) (fun h=>(I.field h).1) (fun _=>⟨by omega,t1⟩)
    rw[q0l]at e2
    simp only[LIns.cells,h]at e2
    refine zA1f (zc @hg @h) q4s e2 ?_
    simp[q0r,h]
  · have hl:L.length=2:=by rw[hlen];simp[q1c,q2e,two6,q0C,h]
    have e2:=z1I (p:=p) (f:=f) (ks:=ks) (ps:=ps) (rl:=rl) hP0 hX0 hT x (slL L) (by rw[q0l];exact hlt) (by rw[q0l];exact hlm) (by omega) (by rw[q0l];omega) (by rw[q0l];omega) (fun h=>(I.field h).1) (fun _=>⟨by omega,t1⟩)
    rw[q0l]at e2
    simp only[LIns.cells,h]at e2
    refine zA1f (zc @hg @h) q4s e2 ?_
    simp[q0r,h]
  · obtain⟨n0,n1⟩:=I.n (.inr h)
    obtain⟨n,hnn⟩:=Y3j n0
    obtain⟨z,hz⟩:=q0b (show n<p.funcs.list.length by omega)
    have hfl:=Y2G (show n<p.funcs.list.length by omega)
    have hfv:=q0j (e:=LFunc.cells) (show 0<p.funcs.list.length by omega)
    have hso:z2q p x.n=z.sig:=by simp[z2q,hnn,hz]
    obtain⟨s0,s1⟩:=hsg z (Y0N hz)
    have e2:=z8N (p:=p) (f:=f) (ks:=ks) (ps:=ps) (rl:=rl) (t:=x.type) hP0 hX0 hT (slL L) (show-1≤z.sig by omega) s1
    rw[q0l]at e2
    simp only[fnV,hfv]at e2
    refine zR0f (zc @hg @h) ?_
    first
      | (skip
         refine Y3c hP [(q1M,[.iptr [[p.types.av LType.cells,.isl (p.funcs.list.map LFunc.cells),.int .i64 f,ks.av cI,ps.av cP,(Sl.mk rl).av cI]] 0 0,.int .i64 z.sig,(slL L).av cI,.int .i64 x.type],.bool (q3p p.types.list z.sig L x.type))] (fun e he=>by rcases Y2k.1 he with rfl|he;exact e2;cases he) (by kernel_rfl) (by simp[hX,hg,hnn,hfl,hz,hfv,q1M,q4Z,q5a]<;>rfl) ?_
         repeat' (refine q5L (fun hb=> ?_) (fun hb=> ?_)<;>(try simp only[Y3e,Y1k,Y3f]at hb)<;>refine z6v (by simp[hb,hX,hg,hnn,hfl,hz,hfv,q1M,q4Z,q5a]<;>rfl) ?_)
         all_goals dsimp only[okQ,q0a])
    refine zA0 ?_
    simp[q0r,h,hso]
  · obtain⟨a,r,rfl⟩:=x8b (L:=L) (by rw[hlen];simp[q1c,q2e,two6,q0C,h])
    have e2:=z8N (p:=p) (f:=f) (ks:=ks) (ps:=ps) (rl:=rl) (t:=x.type) hP0 hX0 hT (.mk r) (hlt a (by simp)).1 (hlt a (by simp)).2
    rw[show(Sl.mk r).list=r from rfl]at e2
    have hL:=show(slL (a::r)).av cI=AV.isl ([.int .i64 a]::r.map cI)from rfl
    simp only[fnV]at e2
    have hst:=fun T h=>z6M (gl:=gl) (K:=(K.lendF q0k (isFn p f ks ps rl)).tell T) a r h
    simp only[q0m,Y1f,cI]at hst
    refine zR0f (zc @hg @h) ?_
    first
      | (skip
         refine Y3c hP [(q1M,[fnV p f ks ps rl,.int .i64 a,.isl (r.map cI),.int .i64 x.type],.bool (q3p p.types.list a r x.type))] (fun e he=>by rcases Y2k.1 he with rfl|he;exact e2;cases he) (by kernel_rfl) (by simp[hX,hg,hL,natZ,hst,q1M,q4Z,q5a]<;>rfl) ?_
         repeat' (refine q5L (fun hb=> ?_) (fun hb=> ?_)<;>(try simp only[Y3e,Y1k,Y3f]at hb)<;>refine z6v (by simp[hb,hX,hg,hL,natZ,hst,q1M,q4Z,q5a]<;>rfl) ?_)
         all_goals dsimp only[okQ,q0a])
    refine zA0 ?_
    simp[q0r,h]
  · have hL:L= []:=Y1y (by rw[hlen];simp[q1c,q2e,two6,q0C,h])
    subst hL
    have e1:=x5h (p:=p) (f:=f) (ks:=ks) (ps:=ps) (rl:=rl) (kd:=1) hP0 hX0
    have e2:=ei 1
    have hv:(slL []).av cI=AV.nilsl:=rfl
    repeat' first|refine zA1f (zc @hg (zc @h @hv)) q0g e1 ?_|(refine Y3b hP q0g (e2) ?_ rfl rfl rfl (by simp<;>rfl) ?_ rfl ?_;(focus(simp;done));(focus(repeat' first|exact Y2Y|apply Y3a|refine Y3T (by simp[hg,h,hv]<;>rfl) ?_|refine Y2Z q4a ?_);done);refine Y2X hP (by simp[hg,h,hv]<;>rfl) ?_;dsimp only[goK])
    simp[q0r,h]
  · obtain⟨a,rfl⟩:=z8p (L:=L) (by rw[hlen];simp[q1c,q2e,two6,q0C,h])
    have e1:=eL a (by simp) 1
    have hv:(slL [a]).av cI=AV.isl [[.int .i64 a]]:=rfl
    refine zA1f (zc @hg (zc @h @hv)) q0g e1 ?_
    simp[q0r,h]
  · have e3:=q4v hP (slL L) q3U [.ptr 0 0] (fun t=> !decide (t=x.type)) z4f g (by rw[q0l];exact hlm) fun t ht h' hw'=>right1_qt hP ((hw'.get 0 (by omega)).trans hg')
    rw[q0l]at e3
    have hr:q0r p x L=(q2J p.types.list x.type&& !(L.any fun t=> !decide (t=x.type))):=by
      rw[Y3i]
      simp[q0r,h,Bool.and_comm]
    rw[hr]
    cases hs:q2J p.types.list x.type with
    | false=>
      rw[hs]at eS
      refine zA1f (zc @hg @h) q9n eS ?_
      all_goals simp
    | true=>
      rw[hs]at eS
      refine zA1f (zc @hg @h) q9n eS ?_
      refine Y2N hP q0W e3 (by simp) rfl rfl rfl rfl fun k hk=> ?_
      refine Y2B hP (by simp<;>rfl) ?_
      dsimp only[goK,q0a,q0c,q0d]
      refine zA0 ?_
      all_goals simp
theorem x3r{l:List LBlock}{nx:Nat→Option Nat}(hl0:0<l.length)(hto:∀b∈l,∀t∈to9 b.ed,0≤t∧t<l.length)(R:RulersOk l nx){a b:Nat}(hb:b∈q0L l):q8M l a b=true↔Anc (nxt nx) b a:=by
 obtain⟨par,t,O⟩:=ordered hl0 hto
 rw[R.rules b hb a,←ruled_iff (to:=toN l) hl0 (fun i t _ ht=>q9i hto ht) ((O.way b).1 hb)]
 unfold q8M x4N z0l
 simp only[Y3N,Y2g,Y1X,Y2h,Y2q,Y3l]
 have e:∀(o:Option Bool),o.getD false=true↔o=some true:=fun o=>by cases o<;>simp
 have e2:∀(o:Option Bool),o.getD false=false↔¬o=some true:=fun o=>by cases o<;>simp
 rw[e,e2]
 constructor
 ·rintro(h|h)
  ·exact .inl (by omega)
  ·exact .inr h
 ·rintro(h|h)
  ·exact .inl (by omega)
  ·exact .inr h
theorem rulL_at{nx:Nat→Option Nat}{n b:Nat}(hb:b<n):(rulL nx n)[b]? =some (if b=0 then-1 else nV nx b):=by
 unfold rulL
 rw[Y1I]
 by_cases h:b=0
 ·subst h;rw[Y0e rfl,Y0e rfl,Y0e (by simpa using hb)]
 ·rw[Y0c (fun e=>h e.symm),Y0c h,Y0R,Y3Q hb];rfl
def oI(c:Option Nat):Int:=match c with|some b=>(b:Int)|none=> -1
def oM(l:List LBlock):Option Nat→Nat
 |some d=>ordN l d+1
 |none=>0
theorem x6e(hP:POk Tryz.prog F gl K){l:List LBlock}{nx:Nat→Option Nat}(hl0:0<l.length)(hl16:l.length≤16)(hto:∀b∈l,∀t∈to9 b.ed,0≤t∧t<l.length)(R:RulersOk l nx){a b:Nat}(hb:b∈q0L l):
    PureC Tryz.prog F q7h [fnV p f ks ps (rulL nx l.length),.int .i64 a,.int .i64 b] (.bool (q8M l a b)):=by
  obtain⟨par,t,O⟩:=ordered hl0 hto
  refine zP2 z5V ?_
  have h0:nxt nx 0=0:=by simp[nxt,R.zero]
  refine zR0 ?_
  refine Y2H (fun c:Option Nat=>[(0,fnV p f ks ps (rulL nx l.length)),(1,.int .i64 a),(2,.int .i64 (oI c))]) (fun c g=>(∀d,c=some d→d∈q0L l∧(Anc (nxt nx) b a↔Anc (nxt nx) d a))∧(c=none→¬Anc (nxt nx) b a)) (fun c=>oM l c) (some b) ?_ ?_ ?_
  focus(repeat' first|exact q0h|refine q0e (by simp[oI]) ?_)
  ·exact⟨fun d e=>by cases e;exact⟨hb,Iff.rfl⟩,fun e=>by cases e⟩
  rintro c g ⟨h1,h2⟩
  have hr:∀v:Bool,(v=true↔Anc (nxt nx) b a)→q8M l a b=v:=fun v hv=>by
    have:=x3r hl0 hto R (a:=a) hb
    cases v<;>simp_all
  cases c with
  | none=>
    have hn:=hr false (by simp[h2 rfl])
    rw[hn]
    dsimp only[oI]
    repeat' first|refine zR0f (zc (show¬((-1:Int)=a) by omega) (show¬((a:Int)= -1) by omega)) ?_|(refine Y2u ⟨.inr rfl,_,_,rfl,rfl,?_⟩;dsimp only[q0q])
    all_goals simp
  | some d=>
    obtain⟨hd,hanc⟩:=h1 d rfl
    have hdl:=O.low d hd
    dsimp only[oI]
    by_cases hda:d=a
    · subst hda
      have hn:=hr true (by simp[hanc];exact .refl _)
      rw[hn]
      repeat' first|refine zR0 ?_|(refine Y2u ⟨.inr rfl,_,_,rfl,rfl,?_⟩;dsimp only[q0q])
      all_goals simp
    · have hda':¬((d:Int)=a):=by omega
      have hrl:=rulL_at (nx:=nx) hdl
      have hll:(rulL nx l.length).length=l.length:=by simp[rulL]
      have hld:decide (d<(rulL nx l.length).length)=true:=Y2G (by omega)
      obtain⟨c',hc'⟩:∃c':Option Nat,c'=if d=0 then none else nx d:=⟨_,rfl⟩
      have hrl2:(rulL nx l.length)[d]? =some (oI c'):=by
        rw[hrl,hc']
        by_cases h:d=0
        ·rw[Y0e h,Y0e h];rfl
        ·rw[Y0c h,Y0c h];unfold nV oI;cases nx d<;>rfl
      have hrv:(Sl.mk (rulL nx l.length)).av cI= .isl ((rulL nx l.length).map cI):=rfl
      refine zA0f (zc @hda' (zc (show¬((d:Int)= -1) by omega) (zc @hrv (zc @hrl2 @hld)))) ?_
      have hanc2:∀e,d≠0→nx d=some e→(Anc (nxt nx) d a↔Anc (nxt nx) e a):=fun e h0 he=>by
        have hne:nxt nx d=e:=by simp[nxt,he]
        constructor
        · intro h
          cases h with
          |refl=>exact absurd rfl hda
          |up h=>rwa [hne]at h
        ·intro h;exact .up (by rwa [hne])
      refine⟨c',?_,trivial,?_,fun e he=> ?_,fun he=> ?_⟩
      · rw[hc']
        by_cases h:d=0
        ·rw[Y0e h];simp[oM]
        · rw[Y0c h]
          cases he:nx d with
          |none=>simp[oM]
          |some e=>have:=R.fall d e he h;simp[oM];omega
      ·repeat' first|exact q0h|refine q0e (by simp[hrv,oI]) ?_
      · by_cases h:d=0
        ·rw[hc',Y0e h]at he;cases he
        · rw[hc',Y0c h]at he
          exact⟨(R.mem e).1 (R.set d e he),hanc.trans (hanc2 e h he)⟩
      · by_cases h:d=0
        · intro h3
          have:=(hanc.1 h3).root h0 h
          omega
        · rw[hc',Y0c h]at he
          have:=(R.mem d).2 hd
          rw[he]at this
          cases this
end Go.Ax
set_option maxRecDepth 20000
noncomputable section
namespace Go.Ax
open Go.Proofs
attribute [local irreducible] TW TO CallsT PureC
variable{F:Nat→Option Obj}{gl:Nat→AV}{K:Knob}{S S':Nat→Prop}
structure Look(p:LProg)(f:Nat)(x:LFunc)(ks:Sl Int)(ps:Sl (Int×Int))(nx:Nat→Option Nat):Prop where
 fn:FnAt p f x
 ok:FnOk p f x ks ps nx
 all:∀b,b<x.blocks.list.length→b∈q0L x.blocks.list
 sg:(q1z p.types.list x.sig).length=q0w p x
variable{p:LProg}{f:Nat}{x:LFunc}{ks:Sl Int}{ps:Sl (Int×Int)}{nx:Nat→Option Nat}
theorem x1E{p:LProg}{x:LFunc}(r:Int)(h:0≤(q2Z p x r).1):(q2Z p x r).1<x.blocks.list.length:=by
 unfold q2Z at h⊢
 split
 ·rename_i b i hw
  obtain⟨_,y,hy,_⟩:=q6C hw
  have:=(Y0m.1 hy).1
  simp at this⊢
  omega
 ·rename_i hw
  rw[hw]at h
  simp at h
theorem set1_qt(hP:POk Tryz.prog F gl K)(H:Look p f x ks ps nx){r at_:Int}{b:Nat}(hb:b<x.blocks.list.length)(h0:0≤r)(h1:r<q2Y p x){q0 q1 q2:Nat}{e0 e1 e2:TypeId}{h:Hp}(hq0:h.get q0=some (.cells e0 [fnV p f ks ps (rulL nx x.blocks.list.length)]))(hq1:h.get q1=some (.cells e1 [.int .i64 b]))(hq2:h.get q2=some (.cells e2 [.int .i64 at_]))(hn:q0<h.nx∧q1<h.nx∧q2<h.nx):
  Qt Tryz.prog F h (.bool (!q3g p x r b at_)) q4W [.int .i64 r,.ptr q0 0,.ptr q1 0,.ptr q2 0]:=by
 obtain⟨_,hr⟩:=reg_at h0 h1 H.sg
 rw[←H.ok.ps]at hr
 obtain⟨n,rfl⟩:=Y3j h0
 rw[Y3N]at hr
 have hpl:=Y2G (Y0m.1 hr).1
 have hpv:=q0j (e:=cP) (show 0<ps.list.length by have:=(Y0m.1 hr).1;omega)
 dsimp only[fnV]at hq0
 refine Y2y hP q0f z5U rfl rfl ?_
 by_cases hw:(q2Z p x n).1<0
 ·rw[Y0e hw]at hr
  have hs:q3g p x n b at_=true:=by unfold q3g;rw[Y0e hw]
  rw[hs]
  repeat' first|refine Y2v ?_|refine Y2s ?_|refine Y2J hP rfl ?_|(refine Y2W hP (by simp[hq0,hq1,hq2,hr,hpl,hpv,cP,pr,natZ,natO,(show¬h.nx=q1 by omega),(show¬h.nx=q2 by omega),(show¬h.nx=q0 by omega),(show¬((-1:Int)=b) by omega)]<;>rfl) ?_;dsimp only[goK])|simp only[q0a,q0c,q0d,↓reduceIte,Nat.reduceEqDiff,reduceCtorEq]|(refine Y2u ⟨.inr rfl,_,_,rfl,rfl,?_⟩;dsimp only[q0q])
  all_goals exact⟨by first|trivial,((Y2M h).new _).put (Y0u _) _⟩
 ·rw[Y0c hw]at hr
  have hlt:=x1E (p:=p) (x:=x) (r:=n) (by omega)
  obtain⟨wb,hwb⟩:=Y3j (show 0≤(q2Z p x n).1 by omega)
  obtain⟨wi,hwi⟩:∃wi,wi=(q2Z p x n).2:=⟨_,rfl⟩
  have hw2:q2Z p x n=((wb:Int),wi):=by rw[hwi,←hwb]
  rw[hw2]at hr
  have e1:=x6e (p:=p) (f:=f) (ks:=ks) (ps:=ps) (nx:=nx) hP (show 0<x.blocks.list.length by omega) (H.fn.small).1 (q4d H.fn.ok) H.ok.ok (a:=wb) (H.all b hb)
  simp only[fnV,hpv]at e1
  by_cases hbb:wb=b
  ·subst hbb
   have hs:q3g p x n wb at_=decide (wi<at_):=by unfold q3g;rw[hw2];dsimp only;rw[Y0c (by omega),Y0e rfl]
   rw[hs]
   repeat' first|refine Y2v ?_|refine Y2I hP rfl ?_|(refine Y2W hP (by simp[hq0,hq1,hq2,hr,hpl,hpv,cP,pr,natZ,natO,(show¬h.nx=q1 by omega),(show¬h.nx=q2 by omega),(show¬h.nx=q0 by omega)]<;>rfl) ?_;dsimp only[goK])|simp only[q0a,q0c,q0d,↓reduceIte,Nat.reduceEqDiff,reduceCtorEq]|(refine Y2u ⟨.inr rfl,_,_,rfl,rfl,?_⟩;dsimp only[q0q])
   all_goals exact⟨by first|(simp only[AV.bool.injEq];rw[←decide_not];exact Y3U.2 (by omega)),((Y2M h).new _).put (Y0u _) _⟩
  ·have hs:q3g p x n b at_=q8M x.blocks.list wb b:=by unfold q3g;rw[hw2];dsimp only;rw[Y0c (by omega),Y0c (by omega)]
   rw[hs]
   repeat' first|refine Y2v ?_|refine Y2s ?_|refine Y2J hP rfl ?_|(refine Y2W hP (by simp[hq0,hq1,hq2,hr,hpl,hpv,cP,pr,natZ,natO,(show¬h.nx=q1 by omega),(show¬h.nx=q2 by omega),(show¬h.nx=q0 by omega),(show¬((wb:Int)=b) by omega),(show¬((wb:Int)= -1) by omega)]<;>rfl) ?_;dsimp only[goK])|(refine Y2O hP z5P (e1) ?_ rfl rfl rfl rfl ?_;(focus(simp;done));refine Y2X hP (by simp[hq0,hq1,hq2,hr,hpl,hpv,cP,pr,natZ,natO,(show¬h.nx=q1 by omega),(show¬h.nx=q2 by omega),(show¬h.nx=q0 by omega),(show¬((wb:Int)=b) by omega),(show¬((wb:Int)= -1) by omega)]<;>rfl) ?_;dsimp only[goK])|simp only[q0a,q0c,q0d,↓reduceIte,Nat.reduceEqDiff,reduceCtorEq]|(refine Y2u ⟨.inr rfl,_,_,rfl,rfl,?_⟩;dsimp only[q0q])
   all_goals exact⟨by first|trivial,((Y2M h).new _).put (Y0u _) _⟩
theorem z3v(hP:POk Tryz.prog F gl K)(H:Look p f x ks ps nx){at_:Int}{b:Nat}(hb:b<x.blocks.list.length)(L:Sl Int)(hL:∀r∈L.list,0≤r∧r<q2Y p x)(hlen:L.list.length<1000000):
  PureC Tryz.prog F q0y [fnV p f ks ps (rulL nx x.blocks.list.length),.int .i64 b,.int .i64 at_,L.av cI] (.bool (q1O p x L.list b at_)):=by
 refine zP2 z8j ?_
 refine Y2v (Y2A hP (by simp<;>rfl) ?_)
 dsimp only[goK,q0a,q0c,q0d]
 refine Y2v (Y2A hP (by simp<;>rfl) ?_)
 dsimp only[goK,q0a,q0c,q0d]
 refine Y2N hP q0W (q4v hP L q4W [.ptr 0 0,.ptr 1 0,.ptr 2 0] (fun r=> !q3g p x r b at_) z5O _ hlen fun r hr h' hw'=>set1_qt (e0:=130) (e1:=3) (e2:=3) hP H hb (hL r hr).1 (hL r hr).2 (hw'.at (o:=.cells 130 [fnV p f ks ps (rulL nx x.blocks.list.length)]) (by simp) (by simp)) (hw'.at (o:=.cells 3 [.int .i64 b]) (by simp) (by simp)) (hw'.at (o:=.cells 3 [.int .i64 at_]) (by simp) (by simp)) (by have h3:3≤h'.nx:=hw'.nx;omega)) (by simp) rfl rfl rfl rfl fun k hk=> ?_
 refine Y2B hP (by simp<;>rfl) ?_
 dsimp only[goK,q0a,q0c,q0d]
 refine Y2u ⟨.inr rfl,k,_,rfl,rfl,?_⟩
 simp only[q0q,q1O]
 congr 1
 rw[Y3i]
 simp
end Go.Ax
set_option maxRecDepth 20000
noncomputable section
namespace Go.Ax
open Go.Proofs
attribute [local irreducible] TW TO CallsT PureC
variable{F:Nat→Option Obj}{gl:Nat→AV}{K:Knob}{S S':Nat→Prop}
variable{p:LProg}{f:Nat}{x:LFunc}{ks:Sl Int}{ps:Sl (Int×Int)}{nx:Nat→Option Nat}
def SetRel(p:LProg)(f:Nat)(x:LFunc)(ks:Sl Int)(ps:Sl (Int×Int))(nx:Nat→Option Nat)(fa:List AV)(v:AV):Prop:=
 ∃(b:Nat) (at_:Int) (L:Sl Int),fa= [fnV p f ks ps (rulL nx x.blocks.list.length),.int .i64 b,.int .i64 at_,L.av cI]∧b<x.blocks.list.length∧(∀r∈L.list,0≤r∧r<q2Y p x)∧L.list.length<1000000∧v= .bool (q1O p x L.list b at_)
open Classical in
def z7R(p:LProg)(f:Nat)(x:LFunc)(ks:Sl Int)(ps:Sl (Int×Int))(nx:Nat→Option Nat)(fa:List AV):Option AV:=if h:∃v,SetRel p f x ks ps nx fa v then some h.choose else none
theorem setFn_at{b:Nat}{at_:Int}{L:Sl Int}(hb:b<x.blocks.list.length)(hL:∀r∈L.list,0≤r∧r<q2Y p x)(hlen:L.list.length<1000000):z7R p f x ks ps nx [fnV p f ks ps (rulL nx x.blocks.list.length),.int .i64 b,.int .i64 at_,L.av cI]=some (.bool (q1O p x L.list b at_)):=by
 have h:∃v,SetRel p f x ks ps nx [fnV p f ks ps (rulL nx x.blocks.list.length),.int .i64 b,.int .i64 at_,L.av cI] v:=⟨_,b,at_,L,rfl,hb,hL,hlen,rfl⟩
 unfold z7R
 rw[dif_pos h]
 obtain⟨b',at',L',e,_,_,_,hv⟩:=h.choose_spec
 simp only[Y1g,AV.int.injEq,true_and,and_true]at e
 obtain⟨e1,rfl,e2⟩:=e
 rw[hv,←x8v e2,Int.natCast_inj.1 e1]
theorem pok_setFn(hP:POk Tryz.prog F gl K)(H:Look p f x ks ps nx):POk Tryz.prog F gl (K.lendF q0y (z7R p f x ks ps nx)):=by
 refine x0R hP fun fa v h=> ?_
 unfold z7R at h
 split at h
 ·rename_i hq
  cases h
  obtain⟨b,at_,L,h1,h2,h3,h4,h5⟩:=hq.choose_spec
  rw[h5]
  exact⟨by subst h1;exact z3v hP H h2 L h3 h4,rfl⟩
 ·cases h
theorem x6c{T:List (FuncId×List AV×AV)}{b:Nat}{at_ r:Int}{k:Hp}{q:Nat}(hb:b<x.blocks.list.length)(h1:0≤r∧r<q2Y p x)(hq:k.get q=some (.cells q0x [.int .i64 r])):
  (Ctx.of Tryz.prog gl ((K.lendF q0y (z7R p f x ks ps nx)).tell T)).prim q0y [fnV p f ks ps (rulL nx x.blocks.list.length),.int .i64 b,.int .i64 at_,.sl q 0 1 1 1 true] k=some (.bool (q3g p x r b at_),k):=by
 have hf:mapO (frzV 20 k) [fnV p f ks ps (rulL nx x.blocks.list.length),.int .i64 b,.int .i64 at_,.sl q 0 1 1 1 true]=some [fnV p f ks ps (rulL nx x.blocks.list.length),.int .i64 b,.int .i64 at_,(Sl.mk [r]).av cI]:=Y2Z q4a (Y3a (Y3a (Y3T hq Y2Y)))
 have hL:∀t∈(Sl.mk [r]).list,0≤t∧t<q2Y p x:=fun t ht=>by
  have:t=r:=by simpa [Sl.list]using ht
  omega
 have key:=z4Q (K:=K) (f:=q0y) (φ:=z7R p f x ks ps nx) hf (setFn_at (at_:=at_) hb hL (by simp[Sl.list]))
 have e:q1O p x (Sl.mk [r]).list b at_=q3g p x r b at_:=by simp[Sl.list,q1O]
 rw[e]at key
 exact key
theorem setFn_orc{a:List AV}:(K.lendF q0y (z7R p f x ks ps nx)).orc q0y a=none:=z6Q
def phiP(p:LProg)(x:LFunc)(i:LIns)(A:List Int):Bool:=q6N i.frm.list A&&(List.range i.frm.list.length).all fun k=>q3g p x (i.args.list.getD k 0) (i.frm.list.getD k 0) (q8r x.blocks.list (i.frm.list.getD k 0))
set_option maxHeartbeats 2000000 in
theorem phi_pure(hP:POk Tryz.prog F gl K)(hX:∀f a,K.ext f a=none)(H:Look p f x ks ps nx)(i:LIns)(I:InsOk p x i)(hop:i.op=22)(A:Sl Int):
    PureC Tryz.prog F q8S [fnV p f ks ps (rulL nx x.blocks.list.length),.agg i.cells,A.av cI] (.bool (phiP p x i A.list)):=by
  obtain⟨f1,f2,f3,f4⟩:=I.phi hop
  have e1:=z8S hP hX i.frm A (by omega)
  have hP0:=hP
  have hX0:=hX
  replace hP:=pok_setFn (p:=p) (f:=f) (x:=x) (ks:=ks) (ps:=ps) (nx:=nx) hP0 H
  replace hX:∀f' a,(K.lendF q0y (z7R p f x ks ps nx)).ext f' a=none:=hX0
  have o1:=fun a=>setFn_orc (K:=K) (p:=p) (f:=f) (x:=x) (ks:=ks) (ps:=ps) (nx:=nx) (a:=a)
  refine zP2 z8k ?_
  refine zG ?_
  refine Y2U (fun g=>g.get 0=some (.cells q1e i.cells)∧1≤g.nx) ⟨by simp,by simp⟩ fun g hg=> ?_
  obtain⟨hg,hgn⟩:=hg
  dsimp only[q1e]at hg
  have hlu:=fun h=>q3j (C:=Ctx.of Tryz.prog gl (K.lendF q0y (z7R p f x ks ps nx))) (t:=q0m) (h:=h) (q2c (e:=cI) i.frm) (q4B _)
  dsimp only[q0m]at hlu
  cases hs:q6N i.frm.list A.list with
  | false=>
    rw[hs]at e1
    refine zA1f @hg q2y e1 ?_
    simp[phiP,hs]
  | true =>
    rw[hs]at e1
    refine zA1f (zc @hg @hlu) q2y e1 ?_
    refine Y2H (fun k:Nat=>[(0,fnV p f ks ps (rulL nx x.blocks.list.length)),(4,.ptr 0 0),(15,i.frm.av cI),(16,.int .i64 i.frm.list.length),(17,.int .i64 k)]) (fun k g=>k≤i.frm.list.length∧g.get 0=some (.cells q1e i.cells)∧1≤g.nx∧((List.range k).all fun t=>q3g p x (i.args.list.getD t 0) (i.frm.list.getD t 0) (q8r x.blocks.list (i.frm.list.getD t 0)))=true) (fun k=>i.frm.list.length-k) (0) ?_ ?_ ?_
    focus(repeat' first|exact q0h|refine q0e (by simp) ?_)
    ·exact⟨Y0E _,hg,hgn,rfl⟩
    clear hg hgn
    rintro k g ⟨hk,hg,hgn,hall⟩
    dsimp only[q1e]at hg
    refine zR0 ?_
    refine Y2w hP rfl (fun hc=>Y2s ?_) (fun hc=>Y2t ?_)
    · simp at hc
      obtain⟨b,hb⟩:=q0b hc
      obtain⟨r,hr⟩:=q0b (show k<i.args.list.length by omega)
      have hkd:=Y2G hc
      have hkd2:=Y2G (show k<i.args.list.length by omega)
      have hfrv:=q0j (e:=cI) (show 0<i.frm.list.length by omega)
      have harv:=q0j (e:=cI) (show 0<i.args.list.length by omega)
      obtain⟨b0,b1⟩:=f4 b (Y0N hb)
      obtain⟨c,rfl⟩:=Y3j b0
      obtain⟨y,hy⟩:=q0b (show c<x.blocks.list.length by omega)
      have hcl:=Y2G (show c<x.blocks.list.length by omega)
      have hbv:=q0j (e:=LBlock.cells) (show 0<x.blocks.list.length by omega)
      have hf:=H.fn.at_
      have hfl:=Y2G (Y0m.1 hf).1
      have hfv:=q0j (e:=LFunc.cells) (show 0<p.funcs.list.length by have:=(Y0m.1 hf).1;omega)
      have hrr:=I.uses r (by simp[q1c,hop,q2e,two6,q0C];exact Y0N hr)
      have hil:q8r x.blocks.list c=y.ins.list.length:=by simp[q8r,hy]
      have hgk:q3g p x (i.args.list.getD k 0) (i.frm.list.getD k 0) (q8r x.blocks.list (i.frm.list.getD k 0))=q3g p x r c y.ins.list.length:=by
        rw[Y3l,Y3l,hr,hb]
        simp only[Y2p,hil]
      have hlu2:=fun T h=>q3j (C:=Ctx.of Tryz.prog gl ((K.lendF q0y (z7R p f x ks ps nx)).tell T)) (t:=z0y) (h:=h) (q2c (e:=LIns.cells) y.ins) (q4B _)
      have c1:=fun T m q hq=>x6c (gl:=gl) (K:=K) (p:=p) (f:=f) (x:=x) (ks:=ks) (ps:=ps) (nx:=nx) (T:=T) (at_:=(y.ins.list.length:Int)) (k:=m) (q:=q) (show c<x.blocks.list.length by omega) hrr hq
      dsimp only[q0x]at c1
      dsimp only[z0y]at hlu2
      simp only[fnV,hfv]at c1
      dsimp only[q0a]
      refine zR0f (zc @hb (zc @hfrv @hkd)) ?_
      have hcase:y.ins.av LIns.cells= .nilsl∨y.ins.av LIns.cells= .isl (y.ins.list.map LIns.cells):=by cases y.ins<;>simp[Sl.av,Sl.list]
      rcases hcase with hyv|hyv
      · have hyl:y.ins.list.length=0:=by
          cases hi:y.ins with
          |nil=>rfl
          |mk l=>rw[hi]at hyv;cases hyv
        cases hv:q3g p x r c y.ins.list.length with
        | true=>
          rw[hv]at c1
          simp only[hyl,Int.natCast_zero]at c1
          skip
          refine Y3d hP [] (fun e he=>by cases he) [0,0,0,4,12,28,60,0,128,384,896,2044,4092,8188,0,32764,65532,131068,262140,0,524288,0,3670016,7864320,16252928,33554431,67108863] (by kernel_rfl) (by kernel_rfl) (by simp[hX,hg,hgn,(show¬g.nx=0 by omega),hr,harv,hkd2,hf,hfl,hfv,hy,hcl,hbv,hyv,hyl,o1,c1,q0y,q0I,q0J,oneD,fpAt,fpOf,q0z,ldOf,q0V,q0n,FP.clash,FP.hard,FP.soft,overlap,inR,q0E,q1J,Nat.testBit,show¬g.nx+1≤g.nx by omega,show¬g.nx+2≤g.nx by omega,show¬g.nx+2≤g.nx+1 by omega,show¬g.nx+3≤g.nx by omega,show¬g.nx+3≤g.nx+1 by omega,show¬g.nx+3≤g.nx+2 by omega]<;>rfl) ?_
          repeat' (refine q1g (fun hb=> ?_) (fun hb=> ?_)<;>(try simp only[Y3e,Y1k,Y3f]at hb)<;>refine q3i (by simp[hb,hX,hg,hgn,(show¬g.nx=0 by omega),hr,harv,hkd2,hf,hfl,hfv,hy,hcl,hbv,hyv,hyl,o1,c1,q0y,q0I,q0J,oneD,fpAt,fpOf,q0z,ldOf,q0V,q0n,FP.clash,FP.hard,FP.soft,overlap,inR,q0E,q1J,Nat.testBit,show¬g.nx+1≤g.nx by omega,show¬g.nx+2≤g.nx by omega,show¬g.nx+2≤g.nx+1 by omega,show¬g.nx+3≤g.nx by omega,show¬g.nx+3≤g.nx+1 by omega,show¬g.nx+3≤g.nx+2 by omega]<;>rfl) ?_)
          all_goals dsimp only[okD,q0a]
          refine zA0 ?_
          refine⟨k+1,by omega,trivial,?_,by omega,by rw[q4G,get_new,Y0c (by omega)];exact hg,by simp[get_new];try omega,by rw[Y3C,Y3p,hall];show(true&&(q3g p x (i.args.list.getD k 0) (i.frm.list.getD k 0) (q8r x.blocks.list (i.frm.list.getD k 0))&&true))=true;rw[hgk,hv];rfl⟩
          exact zLf (zc @hfrv (zc @hfv (w64s (show k<9000000000000000000 by omega))))
        | false=>
          rw[hv]at c1
          simp only[hyl,Int.natCast_zero]at c1
          skip
          refine Y3d hP [] (fun e he=>by cases he) [0,0,0,4,12,28,60,0,128,384,896,2044,4092,8188,0,32764,65532,131068,262140,0,524288,0,3670016,7864320,16252928,33554431,67108863] (by kernel_rfl) (by kernel_rfl) (by simp[hX,hg,hgn,(show¬g.nx=0 by omega),hr,harv,hkd2,hf,hfl,hfv,hy,hcl,hbv,hyv,hyl,o1,c1,q0y,q0I,q0J,oneD,fpAt,fpOf,q0z,ldOf,q0V,q0n,FP.clash,FP.hard,FP.soft,overlap,inR,q0E,q1J,Nat.testBit,show¬g.nx+1≤g.nx by omega,show¬g.nx+2≤g.nx by omega,show¬g.nx+2≤g.nx+1 by omega,show¬g.nx+3≤g.nx by omega,show¬g.nx+3≤g.nx+1 by omega,show¬g.nx+3≤g.nx+2 by omega]<;>rfl) ?_
          repeat' (refine q1g (fun hb=> ?_) (fun hb=> ?_)<;>(try simp only[Y3e,Y1k,Y3f]at hb)<;>refine q3i (by simp[hb,hX,hg,hgn,(show¬g.nx=0 by omega),hr,harv,hkd2,hf,hfl,hfv,hy,hcl,hbv,hyv,hyl,o1,c1,q0y,q0I,q0J,oneD,fpAt,fpOf,q0z,ldOf,q0V,q0n,FP.clash,FP.hard,FP.soft,overlap,inR,q0E,q1J,Nat.testBit,show¬g.nx+1≤g.nx by omega,show¬g.nx+2≤g.nx by omega,show¬g.nx+2≤g.nx+1 by omega,show¬g.nx+3≤g.nx by omega,show¬g.nx+3≤g.nx+1 by omega,show¬g.nx+3≤g.nx+2 by omega]<;>rfl) ?_)
          all_goals dsimp only[okD,q0a]
          refine zA0 ?_
          have:((List.range i.frm.list.length).all fun t=>q3g p x (i.args.list.getD t 0) (i.frm.list.getD t 0) (q8r x.blocks.list (i.frm.list.getD t 0)))=false:=Y3E.2 ⟨k,Y2o.2 hc,by rw[hgk,hv];simp⟩
          simp only[phiP,hs,this];rfl
      · skip
        cases hv:q3g p x r c y.ins.list.length with
        | true=>
          rw[hv]at c1
          skip
          refine Y3d hP [] (fun e he=>by cases he) [0,0,0,4,12,28,60,0,128,384,896,2044,4092,8188,0,32764,65532,131068,262140,0,524288,0,3670016,7864320,16252928,33554431,67108863] (by kernel_rfl) (by kernel_rfl) (by simp[hX,hg,hgn,(show¬g.nx=0 by omega),hr,harv,hkd2,hf,hfl,hfv,hy,hcl,hbv,hyv,hlu2,o1,c1,q0y,q0I,q0J,oneD,fpAt,fpOf,q0z,ldOf,q0V,q0n,FP.clash,FP.hard,FP.soft,overlap,inR,q0E,q1J,Nat.testBit,show¬g.nx+1≤g.nx by omega,show¬g.nx+2≤g.nx by omega,show¬g.nx+2≤g.nx+1 by omega,show¬g.nx+3≤g.nx by omega,show¬g.nx+3≤g.nx+1 by omega,show¬g.nx+3≤g.nx+2 by omega]<;>rfl) ?_
          repeat' (refine q1g (fun hb=> ?_) (fun hb=> ?_)<;>(try simp only[Y3e,Y1k,Y3f]at hb)<;>refine q3i (by simp[hb,hX,hg,hgn,(show¬g.nx=0 by omega),hr,harv,hkd2,hf,hfl,hfv,hy,hcl,hbv,hyv,hlu2,o1,c1,q0y,q0I,q0J,oneD,fpAt,fpOf,q0z,ldOf,q0V,q0n,FP.clash,FP.hard,FP.soft,overlap,inR,q0E,q1J,Nat.testBit,show¬g.nx+1≤g.nx by omega,show¬g.nx+2≤g.nx by omega,show¬g.nx+2≤g.nx+1 by omega,show¬g.nx+3≤g.nx by omega,show¬g.nx+3≤g.nx+1 by omega,show¬g.nx+3≤g.nx+2 by omega]<;>rfl) ?_)
          all_goals dsimp only[okD,q0a]
          refine zA0 ?_
          refine⟨k+1,by omega,trivial,?_,by omega,by rw[q4G,get_new,Y0c (by omega)];exact hg,by simp[get_new];try omega,by rw[Y3C,Y3p,hall];show(true&&(q3g p x (i.args.list.getD k 0) (i.frm.list.getD k 0) (q8r x.blocks.list (i.frm.list.getD k 0))&&true))=true;rw[hgk,hv];rfl⟩
          exact zLf (zc @hfrv (zc @hfv (w64s (show k<9000000000000000000 by omega))))
        | false=>
          rw[hv]at c1
          skip
          refine Y3d hP [] (fun e he=>by cases he) [0,0,0,4,12,28,60,0,128,384,896,2044,4092,8188,0,32764,65532,131068,262140,0,524288,0,3670016,7864320,16252928,33554431,67108863] (by kernel_rfl) (by kernel_rfl) (by simp[hX,hg,hgn,(show¬g.nx=0 by omega),hr,harv,hkd2,hf,hfl,hfv,hy,hcl,hbv,hyv,hlu2,o1,c1,q0y,q0I,q0J,oneD,fpAt,fpOf,q0z,ldOf,q0V,q0n,FP.clash,FP.hard,FP.soft,overlap,inR,q0E,q1J,Nat.testBit,show¬g.nx+1≤g.nx by omega,show¬g.nx+2≤g.nx by omega,show¬g.nx+2≤g.nx+1 by omega,show¬g.nx+3≤g.nx by omega,show¬g.nx+3≤g.nx+1 by omega,show¬g.nx+3≤g.nx+2 by omega]<;>rfl) ?_
          repeat' (refine q1g (fun hb=> ?_) (fun hb=> ?_)<;>(try simp only[Y3e,Y1k,Y3f]at hb)<;>refine q3i (by simp[hb,hX,hg,hgn,(show¬g.nx=0 by omega),hr,harv,hkd2,hf,hfl,hfv,hy,hcl,hbv,hyv,hlu2,o1,c1,q0y,q0I,q0J,oneD,fpAt,fpOf,q0z,ldOf,q0V,q0n,FP.clash,FP.hard,FP.soft,overlap,inR,q0E,q1J,Nat.testBit,show¬g.nx+1≤g.nx by omega,show¬g.nx+2≤g.nx by omega,show¬g.nx+2≤g.nx+1 by omega,show¬g.nx+3≤g.nx by omega,show¬g.nx+3≤g.nx+1 by omega,show¬g.nx+3≤g.nx+2 by omega]<;>rfl) ?_)
          all_goals dsimp only[okD,q0a]
          refine zA0 ?_
          have:((List.range i.frm.list.length).all fun t=>q3g p x (i.args.list.getD t 0) (i.frm.list.getD t 0) (q8r x.blocks.list (i.frm.list.getD t 0)))=false:=Y3E.2 ⟨k,Y2o.2 hc,by rw[hgk,hv];simp⟩
          simp only[phiP,hs,this];rfl
    · simp at hc
      obtain rfl:k=i.frm.list.length:=by omega
      dsimp only[q0a]
      refine zA0 ?_
      simp only[phiP,hs,hall]
      rfl
end Go.Ax
