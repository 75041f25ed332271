import Derived.Test.YtdfjkochhifpmaaGreatDoorV21
set_option linter.unusedSimpArgs false
set_option linter.unusedVariables false
set_option maxRecDepth 20000
noncomputable section
namespace Go.Ax
open Go.Proofs
attribute [local irreducible] TW TO CallsT PureC
variable{F:Nat→Option Obj}{gl:Nat→AV}{K:Knob}{S S':Nat→Prop}
theorem x2H(hP:POk Tryz.prog F gl K)(hG:gl q3G= .iptr [q2F] 0 0){op:Int}(h0:0≤op)(h1:op<256):PureC Tryz.prog F q7Z [.int .u8 op] (.bool (q2K op)):=by
 have e1:=of_pure hP hG op h0 h1
 refine zP2 z7Q ?_
 simp only[hasS]at e1
 repeat' first|refine zR1 z1L e1 ?_|(refine Y2u ⟨.inr rfl,_,_,rfl,rfl,?_⟩;dsimp only[q0q])
set_option maxHeartbeats 2000000 in
theorem x2W(hV:Env2 F gl K){p:LProg}{f:Nat}{x:LFunc}(H:GateAt p f x){rows:List (List AV)}{sg:Nat}{a0 a1 a2 pv:AV}{kl:List Int}(hsg:x.sig=sg)(hrow:rows[sg]? =some [a0,a1,a2,pv])(hkl:kl=q1z p.types.list x.sig)(hk4:kl.length≤4)(hcl:cellsOf pv=some [pv]∧q1f pv=true)
  (htold:∀h:Hp,h.lo=h.nx→(∀r,h.nx≤r→h.get r=none)→∃v k,Told F h k pv v kl) (hweak:∀(m:Loc) c,VRel Tryz.prog F m (.isl rows) c→VRel Tryz.prog F m (p.types.av LType.cells) c) (h0:Hp):
  CallsT Tryz.prog F h0 (fun v g=>∃nx s vk vp,v= .ptr s 0∧h0.nx<s∧FnM (h0.nx+1) s (p.types.av LType.cells) (p.funcs.av LFunc.cells) f ((Sl.mk (rulL nx x.blocks.list.length)).av cI) vk vp (q7Q p x x.blocks.list.length) (q5c p x x.blocks.list.length) g∧RulersOk x.blocks.list nx∧Wid h0 g) q9l [.agg [.isl rows,p.funcs.av LFunc.cells],.int .i64 f]:=by
 have hP:=hV.env.P
 have hX:=hV.env.X
 obtain⟨hs1,hs2,hs3⟩:=H.fn.small
 have hf:=H.fn.at_
 have hfl:=Y2G (Y0m.1 hf).1
 have hfv:=q0j (e:=LFunc.cells) (show 0<p.funcs.list.length by have:=(Y0m.1 hf).1;omega)
 have hrl:=Y2G (Y0m.1 hrow).1
 refine Y2y hP q0f x7w rfl rfl ?_
 repeat first|refine Y2v ?_
 refine Y2W hP (by simp<;>rfl) ?_
 dsimp only[goK,q0a,q0c,q0d]
 refine Y2U (fun g=>g.get h0.nx=some (.cells q0o [.isl rows,p.funcs.av LFunc.cells])∧Wid h0 g∧g.nx=h0.nx+1) ⟨by simp,(Y2M h0).new _,by simp⟩ fun g hg=> ?_
 obtain⟨hg0,hw0,hn0⟩:=hg
 dsimp only[q0o]at hg0
 refine TW.wf fun hwf=> ?_
 obtain⟨v,k,T⟩:=htold g.up (by rw[up_lo,z3o]) (wfUp hwf)
 have l1:=T.lo
 rw[z3o]at l1
 have c1:=primP (gl:=gl) (K:=K) (f:=q0v) (args:=[pv]) (h:=g.up) (v:=v) (h1:=k)
 have o1:=orcP (gl:=gl) (K:=K) (f:=q0v) (args:=[pv]) (h:=g.up) (v:=v) (h1:=k)
 have hX2:=fun f a=>(show(Ctx.of Tryz.prog gl ((K.tellP q0v [pv] g.up v k).tell [])).ext f a=none from hX f a)
 have n1:=(widUp T.wid).nx
 have g1:k.get h0.nx=_:=((widUp T.wid).get h0.nx (by omega)).trans hg0
 obtain⟨d0,d1,d2,d3⟩:=T.own.shape
 obtain⟨d4,d5⟩:=hcl
 have hP2:=pok_tellP hP T.hple T.calling
 repeat first|refine Y2v ?_
 refine Y3d hP2 [] (fun e he=>by cases he) [0,0,0,4,0,16,0,112,240,496,1020,2044,4092,8188,16383,32767,65535] (by kernel_rfl) (by kernel_rfl) (by simp[hX2,c1,o1,hg0,g1,d2,d3,d4,d5,l1,hf,hfl,hfv,hsg,hrow,hrl,natO,natZ,(show¬g.nx≤h0.nx by omega),(show¬k.nx≤h0.nx by omega),q0v,z0o,z0v,oneD,fpAt,fpOf,q0z,ldOf,q0V,q0n,FP.clash,FP.hard,FP.soft,overlap,inR,q0E,q1J,Nat.testBit]<;>rfl) ?_
 dsimp only[okD,q0a]
 have hkn:h0.nx<k.nx:=by omega
 refine Y2U (fun m=>m.get h0.nx=some (.cells q0o [.isl rows,p.funcs.av LFunc.cells])∧m.get k.nx=some (.cells T_fn (fnC (.isl rows) (p.funcs.av LFunc.cells) f v .nilsl .nilsl))∧m.nx=k.nx+1∧∀r,r<k.nx→m.get r=k.get r) ⟨by simp[g1,show¬k.nx=h0.nx by omega];try rfl,by simp[fnC,hfv],by simp,fun r hr=>by simp[show¬k.nx=r by omega]⟩ fun m1 hm=> ?_
 obtain⟨ha,hb,hc,hd⟩:=hm
 refine TW.weakCells ha (by omega) (cs':=[p.types.av LType.cells,p.funcs.av LFunc.cells]) rfl (fun m i x y hx hy c hc=> ?_) ?_
 ·match i,hx,hy with
  |0,hx,hy=>cases hx;cases hy;exact hweak m c hc
  |1,hx,hy=>cases hx;cases hy;exact hc
 refine TW.weakCells (h:=(m1.put h0.nx _).z) (r:=k.nx) (e:=T_fn) (cs:=fnC (.isl rows) (p.funcs.av LFunc.cells) f v .nilsl .nilsl) (by rw[q4G,get_put,Y0c (by omega)];exact hb) (by show k.nx<m1.nx;omega) (cs':=fnC (p.types.av LType.cells) (p.funcs.av LFunc.cells) f v .nilsl .nilsl) rfl (fun m i x y hx hy c hc=> ?_) ?_
 ·match i,hx,hy with
  |0,hx,hy=>cases hx;cases hy;exact hweak m c hc
  |n+1,hx,hy=>simp only[fnC,List.getElem?_cons_succ]at hx hy;rw[hx]at hy;cases hy;exact hc
 have hsh:=T.own.shape
 refine Y2U (fun m=>m.get h0.nx=some (.cells q0o [p.types.av LType.cells,p.funcs.av LFunc.cells])∧FnM (h0.nx+1) k.nx (p.types.av LType.cells) (p.funcs.av LFunc.cells) f .nilsl v .nilsl kl [] m∧Wid h0 m) ⟨?_,⟨?_,?_,?_,?_,?_,?_,?_,?_⟩,?_⟩ fun m2 hm=> ?_
 ·rw[q4G,get_put,Y0c (by omega),q4G,get_put,Y0e rfl]
 ·rw[q4G,get_put,Y0e rfl]
 ·show k.nx<m1.nx;omega
 ·have:=T.own
  rw[z3o,hn0]at this
  refine this.keep (by show k.nx≤m1.nx;omega) fun q n x e=> ?_
  have h1:=this.low e
  rw[q4G,get_put,Y0c (by omega),q4G,get_put,Y0c (by omega),hd q h1.2]
 ·exact .inl ⟨rfl,rfl⟩
 ·show h0.nx+1≤m1.nx;omega
 ·intro q n x e
  have:=(T.own.low e).2;omega
 ·intro q n x e;cases e
 ·intro q n x e m y e';cases e'
 ·refine⟨by show h0.nx≤m1.nx;omega,fun r hr=> ?_⟩
  rw[q4G,get_put,Y0c (by omega),q4G,get_put,Y0c (by omega),hd r (by omega),(widUp T.wid).get r (by omega),hw0.get r hr]
 clear ha hb hc hd
 obtain⟨ha,hM,hw2⟩:=hm
 dsimp only[q0o]at ha
 have e1:=All_mem hV H
 simp only[LProg.cells,hfv]at e1
 have hMg:=hM.get
 dsimp only[T_fn,fnC]at hMg
 refine zR0f (zc @ha @hfv) ?_
 refine Y3y hP I_dom_All (e1 _) (by simp) rfl rfl rfl rfl (fun v2 m3 hO=> ?_)
 obtain⟨hw3,nx,rfl,hok⟩:=hO
 have hM3:=hM.same hw3.nx fun r _ hr=>hw3.get r hr
 have hM3g:=hM3.get
 dsimp only[T_fn,fnC]at hM3g
 have ha3:m3.get h0.nx=_:=(hw3.get _ (by have:=hM.bn;omega)).trans ha
 refine Y2X hP (by simp[hM3g]<;>rfl) ?_
 try dsimp only[goK]
 have hM4:=FnM.upd (ty:=p.types.av LType.cells) (fu:=p.funcs.av LFunc.cells) (f:=f) (rl:=(Sl.mk (rulL nx x.blocks.list.length)).av cI) hM3.sn hM3.bn hM3.k hM3.p hM3.ks hM3.ps hM3.kp
 dsimp only[T_fn]at hM4
 dsimp only[fnC]at hM4
 refine Y2U (fun m=>m.get h0.nx=some (.cells q0o [p.types.av LType.cells,p.funcs.av LFunc.cells])∧FnM (h0.nx+1) k.nx (p.types.av LType.cells) (p.funcs.av LFunc.cells) f ((Sl.mk (rulL nx x.blocks.list.length)).av cI) v .nilsl kl [] m∧Wid h0 m) ⟨by rw[get_put,Y0c (by omega)];exact ha3,hM4,(hw2.trans hw3).put (by omega) _⟩ fun m4 hm=> ?_
 clear ha ha3 hM hM3 hM4 hMg hM3g
 obtain⟨ha,hM,hw4⟩:=hm
 dsimp only[q0o]at ha
 have hMg:=hM.get
 dsimp only[T_fn,fnC]at hMg
 obtain⟨d0,d1,_,_⟩:=hsh
 rw[Y1q]at d0
 have hln:=fun h=>q3j (C:=Ctx.of Tryz.prog gl K) (t:=q0m) (h:=h) d0 d1
 dsimp only[q0m]at hln
 have hsn:=hM.sn
 refine zR0f (zc @ha (zc @hfv (zc @hMg (zc @hln (show¬m4.nx=k.nx by omega))))) ?_
 refine Y3y hP q8k (x7r hP hX hk4 (by rw[get_new,Y0e rfl];rfl) (by simp)) (by simp) rfl rfl rfl rfl (fun v5 m5 hO=> ?_)
 obtain⟨rfl,hq1,hq2,hw5⟩:=hO
 have hn5:m4.nx+1<m5.nx:=hq1
 have hl5:∀r,r<m4.nx→m5.get r=m4.get r:=fun r hr=>by rw[hw5.get r (by show r<m4.nx+1;omega),get_new,Y0c (by omega)]
 have hM5g:m5.get k.nx=_:=(hl5 _ hsn).trans hMg
 have ha5:m5.get h0.nx=_:=(hl5 _ (by omega)).trans ha
 refine Y2X hP (by simp[hM5g]<;>rfl) ?_
 try dsimp only[goK]
 have hbn:=hM.bn
 have hM6:=FnM.upd (s:=k.nx) (b:=h0.nx+1) (g:=m5) (vk:=v) (kl:=kl) (vp:=.sl (m4.nx+1) 0 kl.length kl.length 2 true) (pl:=List.replicate kl.length (-1, -1)) (ty:=p.types.av LType.cells) (fu:=p.funcs.av LFunc.cells) (f:=f) (rl:=(Sl.mk (rulL nx x.blocks.list.length)).av cI) (by omega) (by omega) (hM.k.keep (by omega) fun q n x e=>hl5 q (hM.k.low e).2)
  (.inr ⟨m4.nx+1,true,by omega,hn5,by simp,by rw[←repC_self];exact hq2⟩) hM.ks (fun q n x e=>by cases e;omega) (fun q n x e m y e'=>by cases e';have:=(hM.k.low e).2;omega)
 dsimp only[T_fn]at hM6
 dsimp only[fnC]at hM6
 have hk0:q7Q p x 0=kl:=by simp[q7Q,KN,hkl]
 have hp0:q5c p x 0=List.replicate kl.length (-1, -1):=by simp[q5c,PN,hkl]
 refine Y2U (fun m=>m.get h0.nx=some (.cells q0o [p.types.av LType.cells,p.funcs.av LFunc.cells])∧(∃vk vp,FnM (h0.nx+1) k.nx (p.types.av LType.cells) (p.funcs.av LFunc.cells) f ((Sl.mk (rulL nx x.blocks.list.length)).av cI) vk vp (q7Q p x 0) (q5c p x 0) m)∧Wid h0 m) ⟨by rw[get_put,Y0c (by omega)];exact ha5,⟨v,_,by rw[hk0,hp0];exact hM6⟩,Wid.put (hw4.trans ⟨by omega,fun r hr=>hl5 r (by have:=hw4.nx;omega)⟩) (by omega) _⟩ fun m6 hm=> ?_
 clear ha ha5 hM hM6 hMg hM5g hq1 hq2 hw5
 obtain⟨ha,hM,hw6⟩:=hm
 dsimp only[q0o]at ha
 refine zR0f (zc @ha (zc @hfv (zc @hf @hfl))) ?_
 refine Y2H (fun i:Nat=>[(5,.ptr k.nx 0),(52,x.blocks.av LBlock.cells),(53,.int .i64 x.blocks.list.length),(54,.int .i64 i)]) (fun i m=>i≤x.blocks.list.length∧(∃vk vp,FnM (h0.nx+1) k.nx (p.types.av LType.cells) (p.funcs.av LFunc.cells) f ((Sl.mk (rulL nx x.blocks.list.length)).av cI) vk vp (q7Q p x i) (q5c p x i) m)∧Wid h0 m) (fun i=>x.blocks.list.length-i) (0) ?_ ?_ ?_
 focus(repeat' first|exact q0h|refine q0e (by simp) ?_)
 ·exact⟨Y0E _,hM,hw6⟩
 clear ha hM hw6
 rintro i m ⟨hi,⟨vk,vp,hM⟩,hw⟩
 refine zR0 ?_
 refine Y2w hP rfl (fun hc=>Y2s ?_) (fun hc=>Y2t ?_)
 ·simp at hc
  obtain⟨b,hb⟩:=q0b hc
  have hbv:=q0j (e:=LBlock.cells) (show 0<x.blocks.list.length by omega)
  have hid:=Y2G hc
  dsimp only[q0a]
  refine zR0f (zc @hb (zc @hbv @hid)) ?_
  refine Y2U (fun g=>FnM (h0.nx+1) k.nx (p.types.av LType.cells) (p.funcs.av LFunc.cells) f ((Sl.mk (rulL nx x.blocks.list.length)).av cI) vk vp (q7Q p x i) (q5c p x i) g∧Wid h0 g) ⟨?_,?_⟩ fun g hg=> ?_
  ·exact hM.same (by show m.nx≤m.nx+1;omega) fun r _ hr=>by rw[get_put,Y0c (by omega),get_new,Y0c (by omega)]
  ·exact(hw.new _).put hw.nx _
  clear hM hw
  obtain⟨hM,hw⟩:=hg
  have hbl:=hs3 b (Y0N hb)
  have hkl2:=KN_len hs3 i
  have hpl2:=x7X (l:=x.blocks.list) i
  have hpa:(q1z p.types.list x.sig).length≤4:=hkl▸hk4
  refine Y2H (fun j:Nat=>[(5,.ptr k.nx 0),(6,.int .i64 i),(52,x.blocks.av LBlock.cells),(53,.int .i64 x.blocks.list.length),(54,.int .i64 i),(60,b.ins.av LIns.cells),(61,.int .i64 b.ins.list.length),(62,.int .i64 j)]) (fun j m=>j≤b.ins.list.length∧(∃vk vp,FnM (h0.nx+1) k.nx (p.types.av LType.cells) (p.funcs.av LFunc.cells) f ((Sl.mk (rulL nx x.blocks.list.length)).av cI) vk vp (q7Q p x i++(b.ins.list.take j).map z0w) (q5c p x i++(List.range j).map fun t:Nat=>((i:Int),(t:Int))) m)∧Wid h0 m) (fun j=>b.ins.list.length-j) (0) ?_ ?_ ?_
  focus(repeat' first|exact q0h|refine q0e (by simp[hbv]) ?_)
  ·exact⟨Y0E _,⟨vk,vp,by simpa using hM⟩,hw⟩
  clear hM hw vk vp
  rintro j m ⟨hj,⟨vk,vp,hM⟩,hw⟩
  refine zR0 ?_
  refine Y2w hP rfl (fun hc=>Y2s ?_) (fun hc=>Y2t ?_)
  ·simp at hc
   obtain⟨y,hy⟩:=q0b hc
   have hyv:=q0j (e:=LIns.cells) (show 0<b.ins.list.length by omega)
   have hjd:=Y2G hc
   have hyo:=(H.ops.op x (Y0N hf)).op
   dsimp only[q0a]
   repeat first|refine Y2v ?_|refine Y2x ?_
   refine Y2W hP (by simp[hy,hyv,hjd]<;>rfl) ?_
   dsimp only[goK,q0a,q0c,q0d]
   have hmn:=hM.bn
   have hsn2:=hM.sn
   have hM1:=hM.same (m:=(m.new (.cells q1e [.int .u8 0,.int .i64 0,.int .i64 0,.int .i64 0,.int .i64 0,.nilsl,.nilsl])).put m.nx (.cells q1e y.cells)) (by show m.nx≤m.nx+1;omega) fun r _ hr=>by rw[get_put,Y0c (by omega),get_new,Y0c (by omega)]
   have hy0:((m.new (.cells q1e [.int .u8 0,.int .i64 0,.int .i64 0,.int .i64 0,.int .i64 0,.nilsl,.nilsl])).put m.nx (.cells q1e y.cells)).get m.nx=some (.cells q1e y.cells):=by rw[get_put,Y0e rfl]
   have hv1:∀n z,vp≠ .sl m.nx 0 n n 2 z:=fun n z e=>by have:=(hM.p.low e).2;omega
   have hv2:∀n z,vk≠ .sl m.nx 0 n n 1 z:=fun n z e=>by have:=(hM.k.low e).2;omega
   refine Y2U (fun g=>FnM (h0.nx+1) k.nx (p.types.av LType.cells) (p.funcs.av LFunc.cells) f ((Sl.mk (rulL nx x.blocks.list.length)).av cI) vk vp (q7Q p x i++(b.ins.list.take j).map z0w) (q5c p x i++(List.range j).map fun t:Nat=>((i:Int),(t:Int))) g∧Wid h0 g∧g.get m.nx=some (.cells q1e y.cells)∧m.nx<g.nx) ⟨hM1,(hw.new _).put hw.nx _,hy0,by show m.nx<m.nx+1;omega⟩ fun g hg=> ?_
   clear hM1 hy0 hM hw
   obtain⟨hM,hw,hy0,hn0⟩:=hg
   dsimp only[q1e,LIns.cells]at hy0
   have hMg:=hM.get
   dsimp only[T_fn,fnC]at hMg
   have hgn:=hM.sn
   have hbn:=hM.bn
   obtain⟨v',h',q1,q2,q3,q4,q5,hM2⟩:=hM.pushP (gl:=gl) (K:=K) hbn (by simp[q5c];omega) i j
   have hl2:h'.get m.nx=_:=(q5 m.nx hn0 hv1).trans hy0
   have hM2g:=hM2.get
   obtain⟨_,_,_,s2⟩:=hM2.p.shape
   dsimp only[q0Y,q0X]at q1
   dsimp only[T_fn,fnC]at q3 hM2 hM2g
   have hw3:Wid h0 (h'.put k.nx (.cells T_fn (fnC (p.types.av LType.cells) (p.funcs.av LFunc.cells) f vk v' ((Sl.mk (rulL nx x.blocks.list.length)).av cI)))):=Wid.put (⟨by have:=hw.nx;omega,fun r hr=>(q5 r (by have:=hw.nx;omega) fun n z e=>by have:=(hM.p.low e).1;omega).trans (hw.get r hr)⟩:Wid h0 h') (by omega) _
   dsimp only[T_fn,fnC]at hw3
   repeat first|refine Y2v ?_
   refine Y2W hP (by simp[hMg,q1,q2,q3,s2,(show¬g.nx=k.nx by omega)]<;>rfl) ?_
   dsimp only[goK,q0a,q0c,q0d]
   have hv3:∀n z,vk≠ .sl m.nx 0 n n 1 z:=hv2
   refine Y2U (fun g=>FnM (h0.nx+1) k.nx (p.types.av LType.cells) (p.funcs.av LFunc.cells) f ((Sl.mk (rulL nx x.blocks.list.length)).av cI) vk v' (q7Q p x i++(b.ins.list.take j).map z0w) (q5c p x i++(List.range (j+1)).map fun t:Nat=>((i:Int),(t:Int))) g∧Wid h0 g∧g.get m.nx=some (.cells q1e y.cells)∧m.nx<g.nx) ⟨by rw[Y3C,Y3m,←Y0O];exact hM2,hw3,by rw[get_put,Y0c (by omega)];exact hl2,by show m.nx<h'.nx;omega⟩ fun g2 hg=> ?_
   clear hM2 hM2g hw3 hMg hM hw hy0 hn0 q1 q2 q3 q4 q5 s2 hgn hbn hl2
   obtain⟨hM,hw,hy0,hn0⟩:=hg
   dsimp only[q1e,LIns.cells]at hy0
   have hMg:=hM.get
   dsimp only[T_fn,fnC]at hMg
   have hgn:=hM.sn
   have hbn:=hM.bn
   obtain⟨v2,h2,q1,q2,q3,q4,q5,hM2⟩:=hM.pushK (gl:=gl) (K:=K) hbn (by simp[q7Q];omega) (z0w y)
   obtain⟨_,_,_,s2⟩:=hM2.k.shape
   have hM2g:=hM2.get
   dsimp only[q0m,q0x]at q1
   dsimp only[T_fn,fnC]at q3 hM2 hM2g
   have hw3:Wid h0 (h2.put k.nx (.cells T_fn (fnC (p.types.av LType.cells) (p.funcs.av LFunc.cells) f v2 v' ((Sl.mk (rulL nx x.blocks.list.length)).av cI)))):=Wid.put (⟨by have:=hw.nx;omega,fun r hr=>(q5 r (by have:=hw.nx;omega) fun n z e=>by have:=(hM.k.low e).1;omega).trans (hw.get r hr)⟩:Wid h0 h2) (by omega) _
   dsimp only[T_fn,fnC]at hw3
   have e2:=x2H hP hV.env.G (op:=y.op) (hyo b (Y0N hb) y (Y0N hy)).1 (hyo b (Y0N hb) y (Y0N hy)).2
   have ht:b.ins.list.take (j+1)=b.ins.list.take j++[y]:=by rw[Y3L,hy];rfl
   by_cases han:q2K y.op=true
   ·rw[han]at e2
    have hkI:z0w y=y.type:=Y0e han
    rw[hkI]at q1
    refine zA1f (zc @hy0 (zc @hMg (zc @q1 (zc @q2 (zc @q3 (zc @s2 (show¬g2.nx=k.nx by omega))))))) z1h e2 ?_
    refine⟨j+1,by omega,trivial,?_,by omega,⟨v2,v',by rw[ht,Y3m,←Y0O];exact hM2⟩,hw3⟩
    exact zLf (zc @hyv (w64s (show j<9000000000000000000 by omega)))
   ·simp only[Y3S]at han
    rw[han]at e2
    have hkI:z0w y= -1:=Y0c (by simp[han])
    rw[hkI]at q1
    refine zA1f (zc @hy0 (zc @hMg (zc @q1 (zc @q2 (zc @q3 (zc @s2 (show¬g2.nx=k.nx by omega))))))) z1h e2 ?_
    refine⟨j+1,by omega,trivial,?_,by omega,⟨v2,v',by rw[ht,Y3m,←Y0O];exact hM2⟩,hw3⟩
    exact zLf (zc @hyv (w64s (show j<9000000000000000000 by omega)))
  ·simp at hc
   obtain rfl:j=b.ins.list.length:=by omega
   dsimp only[q0a]
   refine zA0 ?_
   refine⟨i+1,by omega,trivial,?_,by omega,⟨vk,vp,?_⟩,hw⟩
   ·exact zLf (w64s (show i<9000000000000000000 by omega))
   ·unfold q7Q q5c
    rw[x3d hb,x8A hb,←Y0O,←Y0O]
    rw[Y3n]at hM
    exact hM
 ·simp at hc
  obtain rfl:i=x.blocks.list.length:=by omega
  dsimp only[q0a]
  refine zA0 ?_
  exact⟨nx,k.nx,vk,vp,rfl,hkn,hM,hok,hw⟩
theorem x3l(hV:Env2 F gl K){p:LProg}{f:Nat}{x:LFunc}(H:GateAt p f x)(h0:Hp):
    CallsT Tryz.prog F h0 (fun v g=>∃nx s vk vp,v= .ptr s 0∧h0.nx<s∧FnM (h0.nx+1) s (p.types.av LType.cells) (p.funcs.av LFunc.cells) f ((Sl.mk (rulL nx x.blocks.list.length)).av cI) vk vp (q7Q p x x.blocks.list.length) (q5c p x x.blocks.list.length) g∧RulersOk x.blocks.list nx∧Wid h0 g) q9l [.agg p.cells,.int .i64 f]:=by
  have hP:=hV.env.P
  obtain⟨a1,a2⟩:=H.fn.sig
  obtain⟨sg,hsg⟩:=Y3j a1
  obtain⟨ty,hty⟩:=q0b (show sg<p.types.list.length by omega)
  have htv:=q0j (e:=LType.cells) (show 0<p.types.list.length by omega)
  have hpa:q1z p.types.list x.sig=ty.parts.list:=by simp[q1z,hsg,hty]
  have hk4:ty.parts.list.length≤4:=H.fn.ty.sig ty (Y0N hty) (by have:=(q1X H.fn.ok).2.2.1;unfold q9u at this;rw[hsg]at this;simpa [hty]using this)
  have hrow:(p.types.list.map LType.cells)[sg]? =some [.int .u8 ty.kind,.int .i64 ty.elem,.int .i64 ty.many,ty.parts.av cI]:=by rw[Y0R,hty];rfl
  show CallsT _ _ _ _ _ [.agg [p.types.av LType.cells,p.funcs.av LFunc.cells],.int .i64 f]
  cases hp:ty.parts with
  | nil=>
    rw[hp]at hrow hpa hk4
    rw[htv]
    have key:=x2W hV H hsg hrow hpa.symm hk4 ⟨rfl,rfl⟩ (fun h hlo hw=>⟨_,_,x4O hP hlo hw (Clone_nil hP)⟩) (fun m c hc=>by rw[htv];exact hc) h0
    rw[htv]at key
    exact key
  | mk l =>
    cases l with
    | cons a l=>
      rw[hp]at hrow hpa hk4
      rw[htv]
      have key:=x2W hV H hsg hrow hpa.symm hk4 ⟨rfl,rfl⟩ (fun h hlo hw=>told_ints hP (by have:(a::l).length≤4:=hk4;omega) hlo hw) (fun m c hc=>by rw[htv];exact hc) h0
      rw[htv]at key
      exact key
    | nil =>
      rw[hp]at hrow hpa hk4
      rw[htv]
      refine CallsT.opens (fun q:Option Addr×Nat=>[.agg [.isl ((p.types.list.map LType.cells).set sg ([AV.int .u8 ty.kind,.int .i64 ty.elem,.int .i64 ty.many,(Sl.mk ([]:List Int)).av cI].set 3 (rawS q.1 q.2))),p.funcs.av LFunc.cells],.int .i64 f]) (fun m c hc=> ?_) fun q=> ?_
      · obtain⟨c1,cs,rfl,h1,h2⟩:=hc.cases_cons
        obtain⟨a,rfl,h3⟩:=Y0q h1
        obtain⟨c2,cs2,e2,h4,h5⟩:=h3.cases_cons
        obtain⟨ad,cap,h6⟩:=h4.openRow (i:=sg) (j:=3) hrow rfl
        exact⟨(ad,cap),LRel.cons (Y0o (by rw[e2];exact LRel.cons h6 h5)) h2⟩
      · obtain⟨ad,cap⟩:=q
        have hlt:=(Y0m.1 hrow).1
        have key:=x2W (pv:=rawS ad cap) (kl:=[]) (rows:=(p.types.list.map LType.cells).set sg [AV.int .u8 ty.kind,.int .i64 ty.elem,.int .i64 ty.many,rawS ad cap]) hV H hsg (by rw[Y3O hlt]) hpa.symm (by simp) ⟨rfl,rfl⟩ (fun h hlo hw=>by
          cases ad with
          |none=>exact⟨_,_,x4O hP hlo hw (x7z hP cap)⟩
          |some a=>exact told_emp hP a cap hlo hw) (fun m c hc=>by rw[htv];exact VRel.shutRow (i:=sg) (j:=3) hrow rfl hc) h0
        rw[htv]at key
        exact key
theorem Sl.of_frz{X:Type}{enc:X→List AV}{l:List X}{u:AV}(h:u= .isl (l.map enc)∨(l.map enc= []∧u= .nilsl)):∃s:Sl X,s.list=l∧u=s.av enc:=by
 rcases h with rfl|⟨h1,rfl⟩
 ·exact⟨.mk l,rfl,rfl⟩
 ·exact⟨.nil,by rw[List.map_eq_nil_iff.1 h1];rfl,rfl⟩
theorem z1G{k:Nat}{h:Hp}{X:Type}{enc:X→List AV}(he:∀a,mapO (frzV k h) (enc a)=some (enc a)):∀l:List X,mapO (mapO (frzV k h)) (l.map enc)=some (l.map enc)
  |[]=>rfl
  | a::l=>by
    simp only[Y1f,mapO,he a,z1G he l]
def fnV(p:LProg)(f:Nat)(ks:Sl Int)(ps:Sl (Int×Int))(rl:List Int):AV:=.iptr [[p.types.av LType.cells,p.funcs.av LFunc.cells,.int .i64 f,ks.av cI,ps.av cP,(Sl.mk rl).av cI]] 0 0
structure FnOk(p:LProg)(f:Nat)(x:LFunc)(ks:Sl Int)(ps:Sl (Int×Int))(nx:Nat→Option Nat):Prop where
 ks:ks.list=q7Q p x x.blocks.list.length
 ps:ps.list=q5c p x x.blocks.list.length
 ok:RulersOk x.blocks.list nx
theorem x3m(hV:Env2 F gl K){p:LProg}{f:Nat}{x:LFunc}(H:GateAt p f x)(h0:Hp):
  CallsT Tryz.prog F h0 (fun v g=>Wid h0 g∧∃ks ps nx,v=fnV p f ks ps (rulL nx x.blocks.list.length)∧FnOk p f x ks ps nx) q9l [.agg p.cells,.int .i64 f]:=by
 refine CallsT.frz (x3l hV H h0) ?_
 rintro v g ⟨nx,s,vk,vp,rfl,hs,hM,hok,hw⟩
 have hM2:=hM.same (m:=g.only fun s=>h0.nx≤s) (Y0u _) fun r hr _=>z3x (S:=fun s=>h0.nx≤s) (by omega)
 obtain⟨u1,h1,h2⟩:=hM2.k.frz (k:=5) (by decide) (fun c hc=>by obtain⟨a,_,rfl⟩:=Y2S.1 hc;rfl) (z1G (fun _=>rfl) _)
 obtain⟨u2,h3,h4⟩:=hM2.p.frz (k:=5) (by decide) (fun c hc=>by obtain⟨a,_,rfl⟩:=Y2S.1 hc;rfl) (z1G (fun _=>rfl) _)
 obtain⟨ks,hks,rfl⟩:=Sl.of_frz h2
 obtain⟨ps,hps,rfl⟩:=Sl.of_frz h4
 refine⟨fun s=>h0.nx≤s,7,fnV p f ks ps (rulL nx x.blocks.list.length),?_,⟨by show h0.nx≤g.nx;exact hw.nx,fun s hs=>by rw[z8m (by omega)];exact hw.get s hs⟩,ks,ps,nx,rfl,hks,hps,hok⟩
 have hg:=hM2.get
 unfold frzV
 dsimp only
 rw[hg]
 dsimp only[fnC,mapO]
 have h5:frzV 6 (g.only fun s=>h0.nx≤s) (.int .i64 f)=some (.int .i64 f):=rfl
 simp only[h1,h3,h5,z2f z6I,z2f x2Z,z2f (e:=cI) (fun _=>rfl)]
 rfl
end Go.Ax
noncomputable section
namespace Go.Ax
def KF(l:List LBlock):List Int:=(l.map fun b=>b.ins.list.map z0w).flatten
def PF:List LBlock→Nat→List (Int×Int)
 |[],_=>[]
 |b::l,i=>(List.range b.ins.list.length).map (fun j:Nat=>((i:Int),(j:Int)))++PF l (i+1)
theorem KN_all(l:List LBlock):KN l l.length=KF l:=by
 unfold KN KF
 congr 1
 refine Y2T fun t=> ?_
 rw[Y0R,Y0R]
 by_cases ht:t<l.length
 ·rw[Y3Q ht,Y0n ht]
  simp[insL,Y0n ht]
 ·rw[Y1V (by simp;omega),Y1V (by omega)]
  rfl
theorem x8B:∀(l:List LBlock) (i:Nat),((List.range l.length).map fun t=>(List.range (insL l t).length).map fun j:Nat=>(((i+t:Nat):Int),(j:Int))).flatten=PF l i
  |[],i=>rfl
  | b::l,i=>by
    rw[Y2i,List.range_succ_eq_map,Y1f,Y2P,Y1D,PF,←x8B l (i+1)]
    congr 2
    refine Y1Z fun t _=> ?_
    show(List.range (insL (b::l) (t+1)).length).map _=_
    have h1:insL (b::l) (t+1)=insL l t:=by simp[insL]
    have h2:i+t.succ=i+1+t:=by omega
    rw[h1,h2]
theorem PN_all(l:List LBlock):PN l l.length=PF l 0:=by
 rw[←x8B l 0]
 unfold PN
 congr 2
 funext t
 simp
theorem whereF:∀(l:List LBlock) (i:Nat) (n:Nat),(n:Int)<q1o l→∃b k y z,q4O l i n=some (i+b,k)∧l[b]? =some y∧y.ins.list[k]? =some z∧(KF l)[n]? =some (z0w z)∧(PF l i)[n]? =some (((i+b:Nat):Int),(k:Int))
  |[],i,n,h=>by simp[q1o]at h;omega
  | b ::l,i,n,h=>by
    have hk:KF (b::l)=b.ins.list.map z0w++KF l:=rfl
    unfold q4O
    by_cases hn:n<b.ins.list.length
    · rw[Y0e (by omega)]
      refine⟨0,n,b,b.ins.list[n],rfl,rfl,Y0n hn,?_,?_⟩
      ·rw[hk,Y0i (by simpa using hn),Y0R,Y0n hn];rfl
      ·rw[PF,Y0i (by simpa using hn),Y0R,Y3Q hn];rfl
    · rw[Y0c (by omega)]
      have hm:q1o (b::l)=b.ins.list.length+q1o l:=by simp[q1o]
      have e:(n:Int)-b.ins.list.length=((n-b.ins.list.length:Nat):Int):=by omega
      rw[e]
      obtain⟨c,k,y,z,h1,h2,h3,h4,h5⟩:=whereF l (i+1) (n-b.ins.list.length) (by omega)
      refine⟨c+1,k,y,z,by rw[h1];congr 2;omega,h2,h3,?_,?_⟩
      ·rw[hk,Y0j (by simp;omega),Y1q];exact h4
      ·rw[PF,Y0j (by simp;omega),Y1q,Y3H,h5];congr 3;omega
theorem z8x:∀(l:List LBlock) (i:Nat) (n:Int),n<0→q4O l i n=none
  |[],_,_,_=>rfl
  | b::l,i,n,h=>by
    unfold q4O
    rw[Y0c (by omega)]
    exact z8x l (i+1) _ (by omega)
theorem reg_at{p:LProg}{x:LFunc}{r:Int}(h0:0≤r)(h1:r<q2Y p x)(hs:(q1z p.types.list x.sig).length=q0w p x):
  (q7Q p x x.blocks.list.length)[r.toNat]? =some (q0K p x r)∧(q5c p x x.blocks.list.length)[r.toNat]? =some (if(q2Z p x r).1<0 then(-1, -1)else q2Z p x r):=by
 obtain⟨n,rfl⟩:=Y3j h0
 unfold q7Q q5c
 rw[KN_all,PN_all]
 by_cases hn:(n:Int)<q0w p x
 ·have hw:=z8x x.blocks.list 0 ((n:Int)-q0w p x) (by omega)
  have hnl:n<(q1z p.types.list x.sig).length:=by omega
  refine⟨?_,?_⟩
  ·rw[Y0i (by simpa using hnl)]
   simp only[q0K,hw,Y3N,Y3l,Y0n hnl,Y2p]
  ·rw[Y0i (by simpa using hnl)]
   simp only[q2Z,hw]
   rw[Y0e (by omega),Y3N,Y3I,Y0e hnl]
 ·have hsn:0≤q0w p x:=by rw[←hs];omega
  obtain⟨b,k,y,z,a1,a2,a3,a4,a5⟩:=whereF x.blocks.list 0 (n-(q1z p.types.list x.sig).length) (by unfold q2Y at h1;omega)
  have e:((n-(q1z p.types.list x.sig).length:Nat):Int)=(n:Int)-q0w p x:=by omega
  rw[e]at a1
  rw[Y0L]at a1 a5
  refine⟨?_,?_⟩
  ·rw[Y0j (by simp;omega),Y3N,a4]
   simp only[q0K,a1,q7F a2 a3]
  ·rw[Y0j (by simp;omega),Y3N,List.length_replicate,a5]
   simp only[q2Z,a1]
   rw[Y0c (by omega)]
end Go.Ax
set_option maxRecDepth 20000
noncomputable section
namespace Go.Ax
open Go.Proofs
attribute [local irreducible] TW TO CallsT PureC
variable{F:Nat→Option Obj}{gl:Nat→AV}{K:Knob}{S S':Nat→Prop}{p:LProg}{f:Nat}{ks:Sl Int}{ps:Sl (Int×Int)}{rl:List Int}
attribute [simp] fnV
theorem nr_pr(q:Int×Int):q2g (cP q)=true:=rfl
theorem noRef_fnV:q3Z (fnV p f ks ps rl)=true:=by
 simp[fnV,q3Z,q2g,q6y,q3T z6I,q3T x2Z,q3T (e:=cI) (fun _=>rfl),q3T nr_pr]
@[simp] theorem noRef_fnC:q3Z (.iptr [[p.types.av LType.cells,p.funcs.av LFunc.cells,.int .i64 f,ks.av cI,ps.av cP,(Sl.mk rl).av cI]] 0 0)=true:=noRef_fnV
theorem q4a{k:Nat}{h:Hp}:frzV (k+1) h (.iptr [[p.types.av LType.cells,p.funcs.av LFunc.cells,.int .i64 f,ks.av cI,ps.av cP,(Sl.mk rl).av cI]] 0 0)=some (.iptr [[p.types.av LType.cells,p.funcs.av LFunc.cells,.int .i64 f,ks.av cI,ps.av cP,(Sl.mk rl).av cI]] 0 0):=by
 unfold frzV
 dsimp only
 rw[show q6y [[p.types.av LType.cells,p.funcs.av LFunc.cells,.int .i64 f,ks.av cI,ps.av cP,(Sl.mk rl).av cI]]=true from noRef_fnC]
 rfl
theorem q6z(htv:p.types.av LType.cells= .isl (p.types.list.map LType.cells)){k:Nat}{h:Hp}:frzV (k+1) h (.iptr [[.isl (p.types.list.map LType.cells),p.funcs.av LFunc.cells,.int .i64 f,ks.av cI,ps.av cP,(Sl.mk rl).av cI]] 0 0)=some (.iptr [[.isl (p.types.list.map LType.cells),p.funcs.av LFunc.cells,.int .i64 f,ks.av cI,ps.av cP,(Sl.mk rl).av cI]] 0 0):=by
 have:=q4a (p:=p) (f:=f) (ks:=ks) (ps:=ps) (rl:=rl) (k:=k) (h:=h)
 rw[htv]at this
 exact this
theorem FrzL.one{h:Hp}{q c:Nat}{e:TypeId}{x:Bool}{a:Int}{r fr:List AV}(hg:h.get q=some (.cells e [.int .i64 a]))(hr:FrzL h r fr):FrzL h (.sl q 0 1 c 1 x::r) (.isl [[.int .i64 a]]::fr):=FrzL.ints (l:=[a]) hg rfl hr
abbrev Y3T:=@FrzL.one
theorem is1_qt(hP:POk Tryz.prog F gl K)(hX:∀f a,K.ext f a=none){t kd:Int}(h1: -1≤t)(h2:t<p.types.list.length){q q':Nat}{e e':TypeId}{h:Hp}(hq:h.get q=some (.cells e [fnV p f ks ps rl]))(hq':h.get q'=some (.cells e' [.int .u8 kd])):
  Qt Tryz.prog F h (.bool (!isT p.types.list t kd)) q5U [.int .i64 t,.ptr q 0,.ptr q' 0]:=by
 refine Y2y hP q0f z7O rfl rfl ?_
 dsimp only[fnV]at hq
 by_cases ht:t= -1
 ·subst ht
  refine zR0 ?_
  refine zEf (zc @hq @hq') t0 ?_
  refine zA0 ?_
  exact⟨by simp[isT],.z (.refl _)⟩
 ·obtain⟨n,rfl⟩:=Y3j (show 0≤t by omega)
  obtain⟨y,hy⟩:=q0b (show n<p.types.list.length by omega)
  have htv:=q0j (e:=LType.cells) (show 0<p.types.list.length by omega)
  have hyl:=Y2G (show n<p.types.list.length by omega)
  refine zR0 ?_
  refine zEf (zc @hq (zc @hq' (zc @ht (zc @htv (zc @hy @hyl))))) t0 ?_
  refine zA0 ?_
  exact⟨by simp[isT,q7s,hy],.z (.refl _)⟩
theorem z9e(hP:POk Tryz.prog F gl K)(hX:∀f a,K.ext f a=none){kd:Int}(L:Sl Int)(hL:∀t∈L.list, -1≤t∧t<p.types.list.length)(hlen:L.list.length<1000000):
  PureC Tryz.prog F q0k [fnV p f ks ps rl,.int .u8 kd,L.av cI] (.bool (L.list.all fun t=>isT p.types.list t kd)):=by
 refine zP2 x0n ?_
 refine Y2v (Y2A hP (by simp<;>rfl) ?_)
 dsimp only[goK,q0a,q0c,q0d]
 refine Y2v (Y2A hP (by simp<;>rfl) ?_)
 dsimp only[goK,q0a,q0c,q0d]
 refine Y2N hP q0W (q4v hP L q5U [.ptr 0 0,.ptr 1 0] (fun t=> !isT p.types.list t kd) z7K _ hlen fun t ht h' hw'=>is1_qt (p:=p) (f:=f) (ks:=ks) (ps:=ps) (rl:=rl) (e:=130) (e':=5) hP hX (hL t ht).1 (hL t ht).2 (hw'.at (o:=.cells 130 [fnV p f ks ps rl]) (by simp) (by simp)) (hw'.at (o:=.cells 5 [.int .u8 kd]) (by simp) (by simp))) (by simp) rfl rfl rfl rfl fun k hk=> ?_
 refine Y2B hP (by simp<;>rfl) ?_
 dsimp only[goK,q0a,q0c,q0d]
 refine Y2u ⟨.inr rfl,k,_,rfl,rfl,?_⟩
 simp only[q0q]
 congr 1
 rw[Y3i]
 simp
theorem q5J(hP:POk Tryz.prog F gl K)(hX:∀f a,K.ext f a=none){kd t:Int}(h1: -1≤t)(h2:t<p.types.list.length):
  PureC Tryz.prog F q0k [fnV p f ks ps rl,.int .u8 kd,.isl [[.int .i64 t]]] (.bool (isT p.types.list t kd)):=by
 have:=z9e (p:=p) (f:=f) (ks:=ks) (ps:=ps) (rl:=rl) hP hX (kd:=kd) (.mk [t]) (fun x hx=>by simp[Sl.list]at hx;subst hx;exact⟨h1,h2⟩) (by simp[Sl.list])
 simpa [Sl.list,Sl.av]using this
theorem z3T(hP:POk Tryz.prog F gl K)(hX:∀f a,K.ext f a=none){t:Int}(h1: -1≤t)(h2:t<p.types.list.length):
  PureC Tryz.prog F q6G [fnV p f ks ps rl,.int .i64 t] (.bool (q2J p.types.list t)):=by
 have e1:=q5J (p:=p) (f:=f) (ks:=ks) (ps:=ps) (rl:=rl) hP hX (kd:=1) h1 h2
 have e2:=q5J (p:=p) (f:=f) (ks:=ks) (ps:=ps) (rl:=rl) hP hX (kd:=2) h1 h2
 have e3:=q5J (p:=p) (f:=f) (ks:=ks) (ps:=ps) (rl:=rl) hP hX (kd:=3) h1 h2
 have hs:q2J p.types.list t=(isT p.types.list t 1||(isT p.types.list t 2||isT p.types.list t 3)):=by
  unfold q2J q6P isT
  rw[show decide (t<p.types.list.length)=true from Y2G h2]
  cases decide (0≤t)<;>rfl
 refine zP2 z5a ?_
 repeat' first|refine zA0 ?_|(refine Y3b hP q0g (e1) ?_ rfl rfl rfl (by simp<;>rfl) ?_ rfl ?_;(focus(simp;done));(focus(repeat' first|exact Y2Y|apply Y3a|refine Y3T (by simp<;>rfl) ?_|refine Y2Z q4a ?_);done);refine Y2X hP (by simp<;>rfl) ?_;dsimp only[goK])|(refine Y3b hP q0g (e2) ?_ rfl rfl rfl (by simp<;>rfl) ?_ rfl ?_;(focus(simp;done));(focus(repeat' first|exact Y2Y|apply Y3a|refine Y3T (by simp<;>rfl) ?_|refine Y2Z q4a ?_);done);refine Y2X hP (by simp<;>rfl) ?_;dsimp only[goK])|(refine Y3b hP q0g (e3) ?_ rfl rfl rfl (by simp<;>rfl) ?_ rfl ?_;(focus(simp;done));(focus(repeat' first|exact Y2Y|apply Y3a|refine Y3T (by simp<;>rfl) ?_|refine Y2Z q4a ?_);done);refine Y2X hP (by simp<;>rfl) ?_;dsimp only[goK])|refine zS (fun hb=> ?_) (fun hb=> ?_)|fail
 all_goals simp_all
theorem x7Z{t:List LType}(hT:OkT t){k:Int}(hk:k<t.length): -1≤to12 t k∧to12 t k<t.length:=by
 unfold to12
 split
 ·rename_i h
  simp only[isT,Y1X,Y2h]at h
  obtain⟨n,rfl⟩:=Y3j h.1
  obtain⟨y,hy⟩:=q0b (show n<t.length by omega)
  have hkd:y.kind=2:=by have:=h.2;simpa [q7s,hy]using this
  have:=hT.elem y (Y0N hy)
  simp only[q1V,Y3N,hy]
  omega
 ·omega
theorem x2S(hP:POk Tryz.prog F gl K)(hX:∀f a,K.ext f a=none){t:Int}(h1: -1≤t)(h2:t<p.types.list.length):
  PureC Tryz.prog F q0S [fnV p f ks ps rl,.int .i64 t] (.int .i64 (to12 p.types.list t)):=by
 have e1:=q5J (p:=p) (f:=f) (ks:=ks) (ps:=ps) (rl:=rl) hP hX (kd:=2) h1 h2
 refine zP2 x0l ?_
 by_cases hi:isT p.types.list t 2=true
 ·have h3:=hi
  simp only[isT,Y1X,Y2h]at h3
  obtain⟨n,rfl⟩:=Y3j h3.1
  obtain⟨y,hy⟩:=q0b (show n<p.types.list.length by omega)
  have htv:=q0j (e:=LType.cells) (show 0<p.types.list.length by omega)
  have hyl:=Y2G (show n<p.types.list.length by omega)
  rw[hi]at e1
  simp only[fnV,htv]at e1
  repeat' first|refine zA0f (zc @htv (zc @hy @hyl)) ?_|(refine Y3b hP q0g (e1) ?_ rfl rfl rfl (by simp<;>rfl) ?_ rfl ?_;(focus(simp;done));(focus(repeat' first|exact Y2Y|apply Y3a|refine Y3T (by simp[htv,hy,hyl]<;>rfl) ?_|refine Y2Z (q6z (by assumption)) ?_);done);refine Y2X hP (by simp[htv,hy,hyl]<;>rfl) ?_;dsimp only[goK])
  simp[to12,hi,q1V,hy]
 ·simp only[Y3S]at hi
  rw[hi]at e1
  repeat' first|refine zA0 ?_|(refine Y3b hP q0g (e1) ?_ rfl rfl rfl (by simp<;>rfl) ?_ rfl ?_;(focus(simp;done));(focus(repeat' first|exact Y2Y|apply Y3a|refine Y3T (by simp<;>rfl) ?_|refine Y2Z q4a ?_);done);refine Y2X hP (by simp<;>rfl) ?_;dsimp only[goK])
  simp[to12,hi]
def q7d(t:List LType)(s n:Int):Int:=if s= -1 then-1 else if isT t s 4=true∧n<(q1z t s).length then(q1z t s).getD n.toNat 0 else if isT t s 5=true then q1V t s else-1
theorem x0U(hP:POk Tryz.prog F gl K)(hX:∀f a,K.ext f a=none)(hT:OkT p.types.list){a t n:Int}(h1: -1≤a)(h2:a<p.types.list.length)(h3: -1≤t)(h4:t<p.types.list.length)(hn:0≤n):
  PureC Tryz.prog F q1Y [fnV p f ks ps rl,.int .i64 a,.int .i64 t,.int .i64 n] (.bool (!decide (q7d p.types.list (to12 p.types.list a) n= -1)&&decide (to12 p.types.list t=q7d p.types.list (to12 p.types.list a) n))):=by
 have e1:=x2S (p:=p) (f:=f) (ks:=ks) (ps:=ps) (rl:=rl) hP hX h1 h2
 have e2:=x2S (p:=p) (f:=f) (ks:=ks) (ps:=ps) (rl:=rl) hP hX h3 h4
 obtain⟨h5,h6⟩:=x7Z hT h2
 generalize to12 p.types.list a=s at*
 generalize to12 p.types.list t=w at*
 have e3:=q5J (p:=p) (f:=f) (ks:=ks) (ps:=ps) (rl:=rl) hP hX (kd:=4) h5 h6
 have e4:=q5J (p:=p) (f:=f) (ks:=ks) (ps:=ps) (rl:=rl) hP hX (kd:=5) h5 h6
 refine zP2 z7N ?_
 by_cases hs:s= -1
 ·refine zA2f @hs q1l e1 q1l e2 ?_
  all_goals simp[q7d,hs]
 obtain⟨m,rfl⟩:=Y3j (show 0≤s by omega)
 obtain⟨k,rfl⟩:=Y3j hn
 obtain⟨y,hy⟩:=q0b (show m<p.types.list.length by omega)
 have htv:=q0j (e:=LType.cells) (show 0<p.types.list.length by omega)
 have hyl:=Y2G (show m<p.types.list.length by omega)
 have hpa:q1z p.types.list m=y.parts.list:=by simp[q1z,hy]
 have hea:q1V p.types.list m=y.elem:=by simp[q1V,hy]
 have hlu:=fun h=>q3j (C:=Ctx.of Tryz.prog gl K) (t:=q0m) (h:=h) (q2c (e:=cI) y.parts) (q4B _)
 dsimp only[q0m]at hlu
 have hm1:¬((m:Int)= -1):=by omega
 simp only[fnV,htv]at e1 e2 e3 e4
 by_cases h4':isT p.types.list m 4=true
 ·rw[h4']at e3
  by_cases hk:k<y.parts.list.length
  ·obtain⟨q,hq⟩:=q0b hk
   have hqv:=q0j (e:=cI) (show 0<y.parts.list.length by omega)
   have hkl:=Y2G hk
   have hps:q7d p.types.list m k=q:=by
    unfold q7d
    rw[Y0c hm1,Y0e ⟨h4',by rw[hpa];omega⟩,hpa]
    simp[Y3l,hq]
   rw[hps]
   by_cases hq1:q= -1
   ·repeat' first|refine Y2v ?_|refine Y2x ?_|refine Y2I hP rfl ?_|refine Y2J hP rfl ?_|(refine Y2W hP (by simp[hm1,htv,hy,hyl,hlu,hk,hq,hqv,hkl,hq1]<;>rfl) ?_;dsimp only[goK])|(refine q1G (fun hb=> ?_) (fun hb=> ?_)<;>(try simp only[Y3e,Y1k,Y3f]at hb)<;>(refine z8u (by simp[hb,hm1,htv,hy,hyl,hlu,hk,hq,hqv,hkl,hq1]<;>rfl) ?_;dsimp only[goK]))|(refine Y2O hP q1l (e1) ?_ rfl rfl rfl rfl ?_;(focus(simp;done));refine Y2X hP (by simp[hm1,htv,hy,hyl,hlu,hk,hq,hqv,hkl,hq1]<;>rfl) ?_;dsimp only[goK])|(refine Y3b hP q0g (e3) ?_ rfl rfl rfl (by simp<;>rfl) ?_ rfl ?_;(focus(simp;done));(focus(repeat' first|exact Y2Y|apply Y3a|refine Y3T (by simp[hm1,htv,hy,hyl,hlu,hk,hq,hqv,hkl,hq1]<;>rfl) ?_|refine Y2Z (q6z (by assumption)) ?_);done);refine Y2X hP (by simp[hm1,htv,hy,hyl,hlu,hk,hq,hqv,hkl,hq1]<;>rfl) ?_;dsimp only[goK])|(refine Y2O hP q1l (e2) ?_ rfl rfl rfl rfl ?_;(focus(simp;done));refine Y2X hP (by simp[hm1,htv,hy,hyl,hlu,hk,hq,hqv,hkl,hq1]<;>rfl) ?_;dsimp only[goK])|simp only[q0a,q0c,q0d,↓reduceIte,Nat.reduceEqDiff,reduceCtorEq]|(refine Y2u ⟨.inr rfl,_,_,rfl,rfl,?_⟩;dsimp only[q0q])
    all_goals (have hq':=(Y0m.1 hq).2;simp_all)
   ·repeat' first|refine Y2v ?_|refine Y2x ?_|refine Y2I hP rfl ?_|refine Y2J hP rfl ?_|(refine Y2W hP (by simp[hm1,htv,hy,hyl,hlu,hk,hq,hqv,hkl,hq1]<;>rfl) ?_;dsimp only[goK])|(refine q1G (fun hb=> ?_) (fun hb=> ?_)<;>(try simp only[Y3e,Y1k,Y3f]at hb)<;>(refine z8u (by simp[hb,hm1,htv,hy,hyl,hlu,hk,hq,hqv,hkl,hq1]<;>rfl) ?_;dsimp only[goK]))|(refine Y2O hP q1l (e1) ?_ rfl rfl rfl rfl ?_;(focus(simp;done));refine Y2X hP (by simp[hm1,htv,hy,hyl,hlu,hk,hq,hqv,hkl,hq1]<;>rfl) ?_;dsimp only[goK])|(refine Y3b hP q0g (e3) ?_ rfl rfl rfl (by simp<;>rfl) ?_ rfl ?_;(focus(simp;done));(focus(repeat' first|exact Y2Y|apply Y3a|refine Y3T (by simp[hm1,htv,hy,hyl,hlu,hk,hq,hqv,hkl,hq1]<;>rfl) ?_|refine Y2Z (q6z (by assumption)) ?_);done);refine Y2X hP (by simp[hm1,htv,hy,hyl,hlu,hk,hq,hqv,hkl,hq1]<;>rfl) ?_;dsimp only[goK])|(refine Y2O hP q1l (e2) ?_ rfl rfl rfl rfl ?_;(focus(simp;done));refine Y2X hP (by simp[hm1,htv,hy,hyl,hlu,hk,hq,hqv,hkl,hq1]<;>rfl) ?_;dsimp only[goK])|simp only[q0a,q0c,q0d,↓reduceIte,Nat.reduceEqDiff,reduceCtorEq]|(refine Y2u ⟨.inr rfl,_,_,rfl,rfl,?_⟩;dsimp only[q0q])
    all_goals (have hq':=(Y0m.1 hq).2;simp_all)
  ·have hps:q7d p.types.list m k=if isT p.types.list m 5=true then y.elem else-1:=by
    unfold q7d
    rw[Y0c hm1,Y0c (fun h=>by have:=h.2;rw[hpa]at this;omega),hea]
   have h5':isT p.types.list m 5=false:=by
    simp only[isT,Y1X,Y2h]at h4'
    simp[isT,h4'.2]
   rw[hps,h5']
   rw[h5']at e4
   repeat' first|refine zA2f (zc @hm1 (zc @htv (zc @hy (zc @hyl (zc @hlu @hk))))) q1l e1 q1l e2 ?_|(refine Y3b hP q0g (e3) ?_ rfl rfl rfl (by simp<;>rfl) ?_ rfl ?_;(focus(simp;done));(focus(repeat' first|exact Y2Y|apply Y3a|refine Y3T (by simp[hm1,htv,hy,hyl,hlu,hk]<;>rfl) ?_|refine Y2Z (q6z (by assumption)) ?_);done);refine Y2X hP (by simp[hm1,htv,hy,hyl,hlu,hk]<;>rfl) ?_;dsimp only[goK])|(refine Y3b hP q0g (e4) ?_ rfl rfl rfl (by simp<;>rfl) ?_ rfl ?_;(focus(simp;done));(focus(repeat' first|exact Y2Y|apply Y3a|refine Y3T (by simp[hm1,htv,hy,hyl,hlu,hk]<;>rfl) ?_|refine Y2Z (q6z (by assumption)) ?_);done);refine Y2X hP (by simp[hm1,htv,hy,hyl,hlu,hk]<;>rfl) ?_;dsimp only[goK])
   all_goals simp
 ·simp only[Y3S]at h4'
  rw[h4']at e3
  have hps:q7d p.types.list m k=if isT p.types.list m 5=true then y.elem else-1:=by
   unfold q7d
   rw[Y0c hm1,Y0c (fun h=>by have:=h.1;rw[h4']at this;cases this),hea]
  rw[hps]
  by_cases h5':isT p.types.list m 5=true
  ·rw[h5']at e4
   rw[Y0e h5']
   by_cases hq1:y.elem= -1
   ·repeat' first|refine zA2f (zc @hm1 (zc @htv (zc @hy (zc @hyl (zc @hlu @hq1))))) q1l e1 q1l e2 ?_|(refine Y3b hP q0g (e3) ?_ rfl rfl rfl (by simp<;>rfl) ?_ rfl ?_;(focus(simp;done));(focus(repeat' first|exact Y2Y|apply Y3a|refine Y3T (by simp[hm1,htv,hy,hyl,hlu,hq1]<;>rfl) ?_|refine Y2Z (q6z (by assumption)) ?_);done);refine Y2X hP (by simp[hm1,htv,hy,hyl,hlu,hq1]<;>rfl) ?_;dsimp only[goK])|(refine Y3b hP q0g (e4) ?_ rfl rfl rfl (by simp<;>rfl) ?_ rfl ?_;(focus(simp;done));(focus(repeat' first|exact Y2Y|apply Y3a|refine Y3T (by simp[hm1,htv,hy,hyl,hlu,hq1]<;>rfl) ?_|refine Y2Z (q6z (by assumption)) ?_);done);refine Y2X hP (by simp[hm1,htv,hy,hyl,hlu,hq1]<;>rfl) ?_;dsimp only[goK])
    all_goals simp[hq1]
   ·repeat' first|refine zA2f (zc @hm1 (zc @htv (zc @hy (zc @hyl (zc @hlu @hq1))))) q1l e1 q1l e2 ?_|(refine Y3b hP q0g (e3) ?_ rfl rfl rfl (by simp<;>rfl) ?_ rfl ?_;(focus(simp;done));(focus(repeat' first|exact Y2Y|apply Y3a|refine Y3T (by simp[hm1,htv,hy,hyl,hlu,hq1]<;>rfl) ?_|refine Y2Z (q6z (by assumption)) ?_);done);refine Y2X hP (by simp[hm1,htv,hy,hyl,hlu,hq1]<;>rfl) ?_;dsimp only[goK])|(refine Y3b hP q0g (e4) ?_ rfl rfl rfl (by simp<;>rfl) ?_ rfl ?_;(focus(simp;done));(focus(repeat' first|exact Y2Y|apply Y3a|refine Y3T (by simp[hm1,htv,hy,hyl,hlu,hq1]<;>rfl) ?_|refine Y2Z (q6z (by assumption)) ?_);done);refine Y2X hP (by simp[hm1,htv,hy,hyl,hlu,hq1]<;>rfl) ?_;dsimp only[goK])
    all_goals simp[hq1]
  ·simp only[Y3S]at h5'
   rw[h5']at e4
   rw[Y0c (by rw[h5'];simp)]
   repeat' first|refine zA2f (zc @hm1 (zc @htv (zc @hy (zc @hyl @hlu)))) q1l e1 q1l e2 ?_|(refine Y3b hP q0g (e3) ?_ rfl rfl rfl (by simp<;>rfl) ?_ rfl ?_;(focus(simp;done));(focus(repeat' first|exact Y2Y|apply Y3a|refine Y3T (by simp[hm1,htv,hy,hyl,hlu]<;>rfl) ?_|refine Y2Z (q6z (by assumption)) ?_);done);refine Y2X hP (by simp[hm1,htv,hy,hyl,hlu]<;>rfl) ?_;dsimp only[goK])|(refine Y3b hP q0g (e4) ?_ rfl rfl rfl (by simp<;>rfl) ?_ rfl ?_;(focus(simp;done));(focus(repeat' first|exact Y2Y|apply Y3a|refine Y3T (by simp[hm1,htv,hy,hyl,hlu]<;>rfl) ?_|refine Y2Z (q6z (by assumption)) ?_);done);refine Y2X hP (by simp[hm1,htv,hy,hyl,hlu]<;>rfl) ?_;dsimp only[goK])
   all_goals simp
end Go.Ax
set_option maxRecDepth 20000
noncomputable section
namespace Go.Ax
open Go.Proofs
attribute [local irreducible] TW TO CallsT PureC
variable{F:Nat→Option Obj}{gl:Nat→AV}{K:Knob}{S S':Nat→Prop}{p:LProg}{f:Nat}{ks:Sl Int}{ps:Sl (Int×Int)}{rl:List Int}
theorem z8N(hP:POk Tryz.prog F gl K)(hX:∀f a,K.ext f a=none)(hT:OkT p.types.list){sg t:Int}(L:Sl Int)(h1: -1≤sg)(h2:sg<p.types.list.length):
  PureC Tryz.prog F q1M [fnV p f ks ps rl,.int .i64 sg,L.av cI,.int .i64 t] (.bool (q3p p.types.list sg L.list t)):=by
 have e1:=q5J (p:=p) (f:=f) (ks:=ks) (ps:=ps) (rl:=rl) hP hX (kd:=3) h1 h2
 refine zP2 z5X ?_
 by_cases hi:isT p.types.list sg 3=true
 ·have h3:=hi
  simp only[isT,Y1X,Y2h]at h3
  obtain⟨n,rfl⟩:=Y3j h3.1
  obtain⟨y,hy⟩:=q0b (show n<p.types.list.length by omega)
  have htv:=q0j (e:=LType.cells) (show 0<p.types.list.length by omega)
  have hyl:=Y2G (show n<p.types.list.length by omega)
  have hps:=hT.parts y (Y0N hy)
  have e2:=z8S hP hX y.parts L (by omega)
  rw[hi]at e1
  simp only[fnV,htv]at e1
  have hr:q3p p.types.list n L.list t=(q6N y.parts.list L.list&&decide (y.elem=t)):=by simp[q3p,hi,q1z,q1V,hy]
  rw[hr]
  by_cases hs:q6N y.parts.list L.list=true
  ·rw[hs]at e2⊢
   repeat' first|refine zA1f (zc @htv (zc @hy @hyl)) q2y e2 ?_|(refine Y3b hP q0g (e1) ?_ rfl rfl rfl (by simp<;>rfl) ?_ rfl ?_;(focus(simp;done));(focus(repeat' first|exact Y2Y|apply Y3a|refine Y3T (by simp[htv,hy,hyl]<;>rfl) ?_|refine Y2Z (q6z (by assumption)) ?_);done);refine Y2X hP (by simp[htv,hy,hyl]<;>rfl) ?_;dsimp only[goK])
   all_goals simp_all
  ·simp only[Y3S]at hs
   rw[hs]at e2⊢
   repeat' first|refine zA1f (zc @htv (zc @hy @hyl)) q2y e2 ?_|(refine Y3b hP q0g (e1) ?_ rfl rfl rfl (by simp<;>rfl) ?_ rfl ?_;(focus(simp;done));(focus(repeat' first|exact Y2Y|apply Y3a|refine Y3T (by simp[htv,hy,hyl]<;>rfl) ?_|refine Y2Z (q6z (by assumption)) ?_);done);refine Y2X hP (by simp[htv,hy,hyl]<;>rfl) ?_;dsimp only[goK])
   all_goals simp_all
 ·simp only[Y3S]at hi
  rw[hi]at e1
  repeat' first|refine zA0 ?_|(refine Y3b hP q0g (e1) ?_ rfl rfl rfl (by simp<;>rfl) ?_ rfl ?_;(focus(simp;done));(focus(repeat' first|exact Y2Y|apply Y3a|refine Y3T (by simp<;>rfl) ?_|refine Y2Z q4a ?_);done);refine Y2X hP (by simp<;>rfl) ?_;dsimp only[goK])
  simp[q3p,hi]
theorem z3K(hP:POk Tryz.prog F gl K){x:LFunc}{nx:Nat→Option Nat}(hK:FnOk p f x ks ps nx)(hs:(q1z p.types.list x.sig).length=q0w p x)(L:Sl Int)(hL:∀r∈L.list,0≤r∧r<q2Y p x)(hlen:L.list.length<1000000):
  PureC Tryz.prog F q5P [fnV p f ks ps rl,L.av cI] ((slL (L.list.map (q0K p x))).av cI):=by
 refine Y2z (O:=fun u g=>frzV 4 g u=some ((slL (L.list.map (q0K p x))).av cI)) (k:=4) (by simp) ?_ (fun u g e=>e)
 refine Y2y hP q0f x0m rfl rfl ?_
 have hlu:=fun h=>q3j (C:=Ctx.of Tryz.prog gl K) (t:=q0m) (h:=h) (q2c (e:=cI) L) (q4B _)
 dsimp only[q0m]at hlu
 refine zR0f @hlu ?_
 refine Y2H (fun q:Nat×AV=>[(0,fnV p f ks ps rl),(4,q.2),(7,L.av cI),(8,.int .i64 L.list.length),(9,.int .i64 q.1)]) (fun q g=>q.1≤L.list.length∧Own 1 q0x 0 g q.2 (((L.list.take q.1).map (q0K p x)).map cI)) (fun q=>L.list.length-q.1) ((0,.nilsl)) ?_ ?_ ?_
 focus(repeat' first|exact q0h|refine q0e (by simp) ?_)
 ·exact⟨Y0E _,.nil⟩
 rintro⟨i,v⟩ g ⟨hi,hown⟩
 dsimp only at hi hown⊢
 refine zR0 ?_
 refine Y2w hP rfl (fun hc=>Y2s ?_) (fun hc=>Y2t ?_)
 ·simp at hc
  obtain⟨r,hr⟩:=q0b hc
  have hic:=Y2G hc
  have hav:=q0j (e:=cI) (show 0<L.list.length by omega)
  obtain⟨b0,b1⟩:=hL r (Y0N hr)
  obtain⟨hk1,_⟩:=reg_at b0 b1 hs
  rw[←hK.ks]at hk1
  obtain⟨n,rfl⟩:=Y3j b0
  rw[Y3N]at hk1
  have hkl:=Y2G (Y0m.1 hk1).1
  have hkv:=q0j (e:=cI) (show 0<ks.list.length by have:=(Y0m.1 hk1).1;omega)
  have hms:((L.list.take (i+1)).map (q0K p x)).map cI=((L.list.take i).map (q0K p x)).map cI++[[.int .i64 (q0K p x n)]]:=by
   rw[Y3L,hr];simp
  obtain⟨v',h',q1,q2,q3,q4⟩:=hown.push (t:=q0m) (row:=[.int .i64 (q0K p x n)]) (q1a (gl:=gl) (K:=K)) q1v rfl rfl (by simp;omega) (Y0E _)
  dsimp only[q0m,q0x]at q1
  dsimp only[q0a]
  refine zA0f (zc @hr (zc @hav (zc @hic (zc @hk1 (zc @hkl (zc @hkv @q1)))))) ?_
  refine⟨(i+1,v'),by dsimp only;omega,trivial,?_,by dsimp only;omega,by rw[hms];exact q2⟩
  exact zLf (zc @hav (zc @hkv (w64s (show i<9000000000000000000 by omega))))
 ·simp at hc
  obtain rfl:i=L.list.length:=by omega
  rw[Y3n]at hown
  dsimp only[q0a]
  refine zA0 ?_
  exact hown.slL
end Go.Ax
noncomputable section
namespace Go.Ax
variable{P:Program}{F:Nat→Option Obj}{gl:Nat→AV}{K:Knob}
theorem Calling.of_frz{h:Hp}{v:AV}{f:FuncId}{args fargs:List AV}(hp:PureC P F f fargs v)(hfr:mapO (frzV 20 h) args=some fargs)(hs:scal v=true):Calling P F h h v f args:=by
 intro m w n cargs hR hA _
 let K:Nat→Prop:=fun b=>∃r o z,h.get r=some o∧o.live=true∧m r=some (b,z)
 have dK:∀b,Decidable (K b):=fun b=>Classical.propDecidable _
 let fz2:Nat→Option Obj:=fun b=> @ite _ (K b) (dK b) w.heap[b]? (m.fz b)
 have f1:∀b o,m.fz b=some o→fz2 b=some o:=fun b o hb=>by
  show @ite _ (K b) (dK b) w.heap[b]? (m.fz b)=some o
  split
  ·exact hR.frz b o (.inr hb)
  ·exact hb
 have f2:∀b o,fz2 b=some o→w.heap[b]? =some o:=fun b o hb=>by
  have hb: @ite _ (K b) (dK b) w.heap[b]? (m.fz b)=some o:=hb
  split at hb
  ·exact hb
  ·exact hR.frz b o (.inr hb)
 have hA':LRel P F ⟨fun _=>none,fz2⟩ fargs cargs.toList:=by
  refine z1u (fun x v y hv hy=>z3z (fz:=fz2) hR f1 (fun r o b z ob hg hl hm hb=> ?_) 20 x v y hv hy) hA hfr
  show @ite _ (K b) (dK b) w.heap[b]? (m.fz b)=some ob
  rw[Y0e ⟨r,o,z,hg,hl,hm⟩];exact hb
 refine(hp ⟨fun _=>none,fz2⟩ w n cargs (fun b o hb=>hb.elim (fun hb=>hR.frz b o (.inl hb)) (f2 b o)) hA').mono fun e w' he=> ?_
 obtain⟨cv,fz,rfl,hsm,hz,hold,hfz,hle,hnew,hv⟩:=he
 refine⟨cv,m,rfl,⟨⟨fun _ _ h=>h,fun _ _ h=>h⟩,fun r c h1 h2=> ?_,⟨fun r o b z hg hm=> ?_,hR.inj,hR.out,fun b o hb=> ?_,hR.wf⟩,hsm,hz,fun b hb _=>hold b hb,Y0u _,fun r o' c hg hl _=>⟨o',hg,hl⟩,fun r b z h1 h2 _=> ?_,fun b o hb=>.inl hb⟩,hv.scal hs⟩
 ·rw[h1]at h2;cases h2
 ·have h1:=hR.obj r o b z hg hm
  by_cases hl:o.live=true
  ·rw[hold b (hR.lt hg hl hm)];exact h1
  ·cases o<;>first|trivial|exact absurd rfl hl
 ·rw[hold b (hR.flt hb)];exact hR.frz b o hb
 ·rw[h1]at h2;cases h2
def Knob.lendF(K:Knob)(f:FuncId)(φ:List AV→Option AV):Knob:=
 {K with orc:=fun g a=>if g=f then none else K.orc g a,prim:=fun g a k=>if g=f then(match mapO (frzV 20 k) a with|some fa=>(φ fa).map fun v=>(v,k)|none=>none)else K.prim g a k}
theorem z6Q{f:FuncId}{φ:List AV→Option AV}{a:List AV}:(K.lendF f φ).orc f a=none:=Y0e rfl
theorem x6y{f g:FuncId}{φ:List AV→Option AV}{a:List AV}(h:g≠f):(K.lendF f φ).orc g a=K.orc g a:=Y0c h
theorem z4Q{f:FuncId}{φ:List AV→Option AV}{a fa:List AV}{k:Hp}{v:AV}(h:mapO (frzV 20 k) a=some fa)(hv:φ fa=some v):(K.lendF f φ).prim f a k=some (v,k):=by
 show(if f=f then(match mapO (frzV 20 k) a with|some fa=>(φ fa).map fun v=>(v,k)|none=>none)else K.prim f a k)=_
 rw[Y0e rfl,h]
 show(φ fa).map _=_
 rw[hv]
 rfl
theorem x0R(hP:POk P F gl K){f:FuncId}{φ:List AV→Option AV}(hφ:∀fa v,φ fa=some v→PureC P F f fa v∧scal v=true):POk P F gl (K.lendF f φ):=by
  refine⟨⟨hP.eq.held,hP.eq.guard,hP.eq.names⟩,hP.glob,hP.names,hP.mixed,fun g a u e=> ?_,hP.ext,fun g a k u k' e=> ?_⟩
  · by_cases q:g=f
    · subst q
      rw[z6Q]at e;cases e
    · rw[x6y q]at e
      exact hP.orc g a u e
  · by_cases q:g=f
    · subst q
      have e:(if g=g then(match mapO (frzV 20 k) a with|some fa=>(φ fa).map fun v=>(v,k)|none=>none)else K.prim g a k)=some (u,k'):=e
      rw[Y0e rfl]at e
      cases hm:mapO (frzV 20 k) a with
      |none=>rw[hm]at e;cases e
      | some fa=>
        rw[hm]at e
        obtain⟨v,hv,he⟩:=Y0S.1 e
        cases he
        obtain⟨h1,h2⟩:=hφ fa _ hv
        exact⟨.refl _,.of_frz h1 hm h2⟩
    · have e:(if g=f then(match mapO (frzV 20 k) a with|some fa=>(φ fa).map fun v=>(v,k)|none=>none)else K.prim g a k)=some (u,k'):=e
      rw[Y0c q]at e
      exact hP.prim g a k u k' e
end Go.Ax
set_option maxRecDepth 20000
noncomputable section
namespace Go.Ax
open Go.Proofs
attribute [local irreducible] TW TO CallsT PureC
variable{F:Nat→Option Obj}{gl:Nat→AV}{K:Knob}{S S':Nat→Prop}{p:LProg}{f:Nat}{ks:Sl Int}{ps:Sl (Int×Int)}{rl:List Int}
theorem cI_inj:∀{l m:List Int},l.map cI=m.map cI→l=m
  |[],[],_=>rfl
  | a::l,b::m,h=>by
    simp only[Y1f,Y1g,cI,AV.int.injEq,true_and,and_true]at h
    rw[h.1,cI_inj h.2]
theorem x8v{L M:Sl Int}(h:L.av cI=M.av cI):L=M:=by
 cases L<;>cases M<;>simp only[Sl.av,reduceCtorEq,AV.isl.injEq]at h
 ·rfl
 ·rw[cI_inj h]
def IsRel(p:LProg)(f:Nat)(ks:Sl Int)(ps:Sl (Int×Int))(rl:List Int)(fa:List AV)(v:AV):Prop:=
 ∃(kd:Int) (L:Sl Int),fa= [fnV p f ks ps rl,.int .u8 kd,L.av cI]∧(∀t∈L.list, -1≤t∧t<p.types.list.length)∧L.list.length<1000000∧v= .bool (L.list.all fun t=>isT p.types.list t kd)
open Classical in
def isFn(p:LProg)(f:Nat)(ks:Sl Int)(ps:Sl (Int×Int))(rl:List Int)(fa:List AV):Option AV:=if h:∃v,IsRel p f ks ps rl fa v then some h.choose else none
theorem x8k{kd:Int}{L:Sl Int}(hL:∀t∈L.list, -1≤t∧t<p.types.list.length)(hlen:L.list.length<1000000):isFn p f ks ps rl [fnV p f ks ps rl,.int .u8 kd,L.av cI]=some (.bool (L.list.all fun t=>isT p.types.list t kd)):=by
 have h:∃v,IsRel p f ks ps rl [fnV p f ks ps rl,.int .u8 kd,L.av cI] v:=⟨_,kd,L,rfl,hL,hlen,rfl⟩
 unfold isFn
 rw[dif_pos h]
 obtain⟨kd',L',e,_,_,hv⟩:=h.choose_spec
 simp only[Y1g,AV.int.injEq,true_and,and_true]at e
 obtain⟨rfl,e2⟩:=e
 rw[hv,←x8v e2]
theorem x4X(hP:POk Tryz.prog F gl K)(hX:∀f a,K.ext f a=none):POk Tryz.prog F gl (K.lendF q0k (isFn p f ks ps rl)):=by
 refine x0R hP fun fa v h=> ?_
 unfold isFn at h
 split at h
 ·rename_i hq
  cases h
  obtain⟨kd,L,h1,h2,h3,h4⟩:=hq.choose_spec
  rw[h4]
  exact⟨by subst h1;exact z9e hP hX _ h2 h3,rfl⟩
 ·cases h
theorem z3I{T:List (FuncId×List AV×AV)}{kd t:Int}{k:Hp}{q:Nat}(h1: -1≤t)(h2:t<p.types.list.length)(hq:k.get q=some (.cells q0x [.int .i64 t])):
  (Ctx.of Tryz.prog gl ((K.lendF q0k (isFn p f ks ps rl)).tell T)).prim q0k [fnV p f ks ps rl,.int .u8 kd,.sl q 0 1 1 1 true] k=some (.bool (isT p.types.list t kd),k):=by
 have hf:mapO (frzV 20 k) [fnV p f ks ps rl,.int .u8 kd,.sl q 0 1 1 1 true]=some [fnV p f ks ps rl,.int .u8 kd,(Sl.mk [t]).av cI]:=Y2Z q4a (Y3a (Y3T hq Y2Y))
 have hL:∀x∈(Sl.mk [t]).list, -1≤x∧x<p.types.list.length:=fun x hx=>by
  have:x=t:=by simpa [Sl.list]using hx
  omega
 have key:=z4Q (K:=K) (f:=q0k) (φ:=isFn p f ks ps rl) hf (x8k hL (by simp[Sl.list]))
 have e:((Sl.mk [t]).list.all fun t=>isT p.types.list t kd)=isT p.types.list t kd:=by simp[Sl.list]
 rw[e]at key
 exact key
theorem x6E{T:List (FuncId×List AV×AV)}{kd:Int}{k:Hp}{L:Sl Int}(hL:∀t∈L.list, -1≤t∧t<p.types.list.length)(hlen:L.list.length<1000000):
  (Ctx.of Tryz.prog gl ((K.lendF q0k (isFn p f ks ps rl)).tell T)).prim q0k [fnV p f ks ps rl,.int .u8 kd,L.av cI] k=some (.bool (L.list.all fun t=>isT p.types.list t kd),k):=by
 have key:=z4Q (K:=K) (f:=q0k) (φ:=isFn p f ks ps rl) (k:=k) (Y2Z (q4a (p:=p) (f:=f) (ks:=ks) (ps:=ps) (rl:=rl)) (Y3a (q:=.u8) (i:=kd) (Y2Z (z2f (e:=cI) (fun _=>rfl) L) Y2Y))) (x8k hL hlen)
 exact key
theorem x5g{a:List AV}:(K.lendF q0k (isFn p f ks ps rl)).orc q0k a=none:=z6Q
theorem partS4{t:List LType}(hT:OkT t){s n w:Int}(h4:isT t s 4=true)(hn:0≤n):(!decide (q7d t s n= -1)&&decide (w=q7d t s n))=(decide (0≤z3r t s n)&&decide (w=z3r t s n)):=by
 have h3:=h4
 simp only[isT,Y1X,Y2h]at h3
 obtain⟨m,rfl⟩:=Y3j h3.1
 obtain⟨y,hy⟩:∃y,t[m]? =some y:=by
  cases h:t[m]? with
  |some y=>exact⟨y,rfl⟩
  |none=>have:=h3.2;simp[q7s,h]at this
 have hk:y.kind=4:=by simpa [q7s,hy]using h3.2
 obtain⟨k,rfl⟩:=Y3j hn
 have hpa:q1z t m=y.parts.list:=by simp[q1z,hy]
 have h5:isT t m 5=false:=by simp[isT,q7s,hy,hk]
 have hpt:z3r t m k=q5F y k:=by simp[z3r,hy]
 have he:q7d t m k=z3r t m k:=by
  unfold q7d
  rw[Y0c (by omega),hpt,hpa,h5]
  by_cases hl:k<y.parts.list.length
  ·rw[Y0e ⟨h4,by omega⟩]
   simp[q5F,hk,hl]
  ·rw[Y0c (fun h=>by omega)]
   simp[q5F,hk,hl]
 rw[he]
 have hr: -1≤z3r t m k:=by
  rw[hpt]
  unfold q5F
  split
  ·rename_i hq
   obtain⟨q,hq'⟩:=q0b (show k<y.parts.list.length by omega)
   have:=(hT.part y (Y0N hy) q (Y0N hq')).1
   simp[Y3l,hq'];omega
  ·rw[Y0c (by rw[hk];omega)];omega
 congr 1
 rw[←decide_not]
 exact Y3U.2 (by omega)
theorem partS5{t:List LType}(hT:OkT t){s w:Int}(h5:isT t s 5=true):(!decide (q7d t s 0= -1)&&decide (w=q7d t s 0))=(decide (0≤q1V t s)&&decide (w=q1V t s)):=by
 have h3:=h5
 simp only[isT,Y1X,Y2h]at h3
 obtain⟨m,rfl⟩:=Y3j h3.1
 obtain⟨y,hy⟩:∃y,t[m]? =some y:=by
  cases h:t[m]? with
  |some y=>exact⟨y,rfl⟩
  |none=>have:=h3.2;simp[q7s,h]at this
 have hk:y.kind=5:=by simpa [q7s,hy]using h3.2
 have h4:isT t m 4=false:=by simp[isT,q7s,hy,hk]
 have he:q7d t m 0=q1V t m:=by
  unfold q7d
  rw[Y0c (by omega),Y0c (fun h=>by rw[h4]at h;cases h.1),Y0e h5]
 rw[he]
 have hr:0≤q1V t m:=by
  have:=hT.elem y (Y0N hy)
  simp only[q1V,Y3N,hy];omega
 congr 1
 rw[←decide_not]
 exact Y3U.2 (by omega)
end Go.Ax
