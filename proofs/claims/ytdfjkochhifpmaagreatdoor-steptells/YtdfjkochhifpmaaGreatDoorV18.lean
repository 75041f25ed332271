import Derived.Test.YtdfjkochhifpmaaGreatDoorV17
set_option linter.unusedSimpArgs false
set_option linter.unusedVariables false
set_option maxRecDepth 20000
noncomputable section
namespace Go.Ax
open Go.Proofs
attribute [local irreducible] TW TO CallsT PureC
variable{F:Nat→Option Obj}{gl:Nat→AV}{K:Knob}{S S':Nat→Prop}
attribute [local simp] q1N q1C q1D
theorem q7q{L:List Int}(h:L.length=2):∃a b,L= [a,b]:=by
 match L,h with
 |[a,b],_=>exact⟨a,b,rfl⟩
theorem z8p{L:List Int}(h:L.length=1):∃a,L= [a]:=by
 match L,h with
 |[a],_=>exact⟨a,rfl⟩
theorem x8b{L:List Int}(h:0<L.length):∃a r,L=a::r:=by
 match L,h with
 |a::r,_=>exact⟨a,r,rfl⟩
def Knob.tellF(K:Knob)(f:FuncId)(O:List AV→Option AV):Knob:={K with orc:=fun g args=>open Classical in if g=f then O args else K.orc g args}
theorem x0J{f g:FuncId}{O:List AV→Option AV}{args:List AV}:(K.tellF f O).orc g args=open Classical in if g=f then O args else K.orc g args:=rfl
theorem tellF_ext{f:FuncId}{O:List AV→Option AV}:(K.tellF f O).ext=K.ext:=rfl
attribute [simp] x0J tellF_ext
theorem pok_tellF{P:Program}{f:FuncId}{O:List AV→Option AV}(hP:POk P F gl K)(hO:∀args v,O args=some v→PureC P F f args v):POk P F gl (K.tellF f O):=
 ⟨⟨hP.eq.held,hP.eq.guard,hP.eq.names⟩,hP.glob,hP.names,hP.mixed,fun g args v h=>by
  rw[x0J]at h
  split at h
  ·rename_i e;subst e;exact hO args v h
  ·exact hP.orc g args v h,hP.ext,hP.prim⟩
def isO(p:LProg)(args:List AV):Option AV:=open Classical in if h:∃k kd:Int,k<p.types.list.length∧args= [.agg p.cells,.int .i64 k,.int .u8 kd]then some (.bool (isT p.types.list h.choose h.choose_spec.choose))else none
theorem isO_pure(hP:POk Tryz.prog F gl K)(p:LProg):∀args v,isO p args=some v→PureC Tryz.prog F q1N args v:=fun args v h=>by
 unfold isO at h
 split at h
 ·rename_i hx
  cases h
  have h2:=hx.choose_spec.choose_spec
  have:=q5N hP p hx.choose hx.choose_spec.choose h2.1
  rw[←h2.2]at this
  exact this
 ·cases h
theorem q4P{p:LProg}{k:Int}(hk:k<p.types.list.length)(kd:Int):isO p [.agg [p.types.av LType.cells,p.funcs.av LFunc.cells],.int .i64 k,.int .u8 kd]=some (.bool (isT p.types.list k kd)):=by
 unfold isO
 have hx:∃k' kd':Int,k'<p.types.list.length∧[.agg [p.types.av LType.cells,p.funcs.av LFunc.cells],AV.int .i64 k,AV.int .u8 kd]= [.agg p.cells,.int .i64 k',.int .u8 kd']:=⟨k,kd,hk,rfl⟩
 rw[dif_pos hx]
 have h2:=hx.choose_spec.choose_spec.2
 have h3:=(List.cons.inj (List.cons.inj h2).2).1
 have h4:=(List.cons.inj (List.cons.inj (List.cons.inj h2).2).2).1
 injection h3 with _ h3
 injection h4 with _ h4
 have key:∀a b,k=a→kd=b→some (AV.bool (isT p.types.list a b))=some (AV.bool (isT p.types.list k kd)):=by rintro _ _ rfl rfl;rfl
 exact key _ _ h3 h4
set_option maxHeartbeats 8000000 in
theorem x2m(hP:POk Tryz.prog F gl K)(hX:∀f a,K.ext f a=none)(p:LProg)(hT:OkT p.types.list)(x:LIns)(L:List Int)(hlen:L.length=(q1c x).length)(hlm:L.length<1000000)(hlt:∀t∈L,t<p.types.list.length)(hxt:x.type<p.types.list.length)(hop:1≤x.op∧x.op≤22)(hn:x.op=3∨x.op=18→0≤x.n∧x.n<p.funcs.list.length)(hsg:∀f∈p.funcs.list,f.sig<p.types.list.length):
    PureC Tryz.prog F q5h [.agg p.cells,.agg x.cells,(slL L).av cI] (.bool (q0r p x L)):=by
  have ei:=fun k kd hk=>q5N hP p k kd hk
  simp only[LProg.cells]at ei
  refine zP z3a ?_
  refine zG ?_
  refine Y2U (fun g=>g.get 0=some (.cells q0o p.cells)∧g.get 1=some (.cells q1e x.cells)) ⟨by simp,by simp⟩ fun g hg=> ?_
  obtain⟨hg0,hg1⟩:=hg
  dsimp only[q0o,q1e]at hg0 hg1
  have hP:=pok_tellF hP (isO_pure hP p)
  have hX:∀f a,(K.tellF q1N (isO p)).ext f a=none:=hX
  have hcs:x.op=1∨x.op=2∨x.op=3∨x.op=4∨x.op=5∨x.op=6∨x.op=7∨x.op=8∨x.op=9∨x.op=10∨x.op=11∨x.op=12∨x.op=13∨x.op=14∨x.op=15∨x.op=16∨x.op=17∨x.op=18∨x.op=19∨x.op=20∨x.op=21∨x.op=22:=by omega
  rcases hcs with h|h|h|h|h|h|h|h|h|h|h|h|h|h|h|h|h|h|h|h|h|h
  · have e2:=ei x.type 1 hxt
    refine zA1f (zc @hg0 (zc @hg1 @h)) q0R e2 ?_
    simp[q0r,h]
  · have e2:=ei x.type 2 hxt
    have e3:=ei x.type 3 hxt
    cases hi:isT p.types.list x.type 2 with
    | true=>
      rw[hi]at e2
      refine zA1f (zc @hg0 (zc @hg1 @h)) q0R e2 ?_
      simp[q0r,h,hi]
    | false=>
      rw[hi]at e2
      refine zA2f (zc @hg0 (zc @hg1 @h)) q0R e2 q0R e3 ?_
      simp[q0r,h,hi]
  · obtain⟨n0,n1⟩:=hn (.inl h)
    obtain⟨n,hnn⟩:=Y3j n0
    obtain⟨f,hf⟩:=q0b (show n<p.funcs.list.length by omega)
    have hfl:=Y2G (show n<p.funcs.list.length by omega)
    have hav:=q0j (e:=LFunc.cells) (show 0<p.funcs.list.length by omega)
    refine zR0f (zc @hg1 @h) ?_
    refine zEf (zc @hg0 (zc @hg1 (zc @hnn (zc @hfl (zc @hf @hav))))) t0 ?_
    refine zA0 ?_
    simp[q0r,h,z2q,hnn,hf]
  · obtain⟨a,b,rfl⟩:=q7q (L:=L) (by rw[hlen];simp[q1c,q2e,two6,q0C,h])
    have hL:=show(slL [a,b]).av cI=AV.isl [[.int .i64 a],[.int .i64 b]]from rfl
    have ia:=q4P (hlt a (by simp))
    have ib:=q4P (hlt b (by simp))
    have ix:=q4P hxt
    cases hi:isT p.types.list a 1 with
    | false=>
      refine zR0f (zc @hg1 @h) ?_
      refine zEf (zc @hg0 (zc @hg1 (zc @hL (zc @natZ (zc @natO (zc @ia @hi)))))) t0 ?_
      refine zA0 ?_
      simp[q0r,h,hi]
    | true=>
      cases hj:isT p.types.list b 1 with
      | false=>
        refine zR0f (zc @hg1 @h) ?_
        refine zEf (zc @hg0 (zc @hg1 (zc @hL (zc @natZ (zc @natO (zc @ia (zc @ib (zc @hi @hj)))))))) t0 ?_
        refine zA0 ?_
        simp[q0r,h,hi,hj]
      | true=>
        refine zR0f (zc @hg1 @h) ?_
        refine zEf (zc @hg0 (zc @hg1 (zc @hL (zc @natZ (zc @natO (zc @ia (zc @ib (zc @ix (zc @hi @hj))))))))) t0 ?_
        refine zA0 ?_
        simp[q0r,h,hi,hj]
  · obtain⟨a,b,rfl⟩:=q7q (L:=L) (by rw[hlen];simp[q1c,q2e,two6,q0C,h])
    have hL:=show(slL [a,b]).av cI=AV.isl [[.int .i64 a],[.int .i64 b]]from rfl
    have ia:=q4P (hlt a (by simp))
    have ib:=q4P (hlt b (by simp))
    have ix:=q4P hxt
    cases hi:isT p.types.list a 1 with
    | false=>
      refine zR0f (zc @hg1 @h) ?_
      refine zEf (zc @hg0 (zc @hg1 (zc @hL (zc @natZ (zc @natO (zc @ia @hi)))))) t0 ?_
      refine zA0 ?_
      simp[q0r,h,hi]
    | true=>
      cases hj:isT p.types.list b 1 with
      | false=>
        refine zR0f (zc @hg1 @h) ?_
        refine zEf (zc @hg0 (zc @hg1 (zc @hL (zc @natZ (zc @natO (zc @ia (zc @ib (zc @hi @hj)))))))) t0 ?_
        refine zA0 ?_
        simp[q0r,h,hi,hj]
      | true=>
        refine zR0f (zc @hg1 @h) ?_
        refine zEf (zc @hg0 (zc @hg1 (zc @hL (zc @natZ (zc @natO (zc @ia (zc @ib (zc @ix (zc @hi @hj))))))))) t0 ?_
        refine zA0 ?_
        simp[q0r,h,hi,hj]
  · obtain⟨a,b,rfl⟩:=q7q (L:=L) (by rw[hlen];simp[q1c,q2e,two6,q0C,h])
    have hL:=show(slL [a,b]).av cI=AV.isl [[.int .i64 a],[.int .i64 b]]from rfl
    have ia:=q4P (hlt a (by simp))
    have ib:=q4P (hlt b (by simp))
    have ix:=q4P hxt
    cases hi:isT p.types.list a 1 with
    | false=>
      refine zR0f (zc @hg1 @h) ?_
      refine zEf (zc @hg0 (zc @hg1 (zc @hL (zc @natZ (zc @natO (zc @ia @hi)))))) t0 ?_
      refine zA0 ?_
      simp[q0r,h,hi]
    | true=>
      cases hj:isT p.types.list b 1 with
      | false=>
        refine zR0f (zc @hg1 @h) ?_
        refine zEf (zc @hg0 (zc @hg1 (zc @hL (zc @natZ (zc @natO (zc @ia (zc @ib (zc @hi @hj)))))))) t0 ?_
        refine zA0 ?_
        simp[q0r,h,hi,hj]
      | true=>
        refine zR0f (zc @hg1 @h) ?_
        refine zEf (zc @hg0 (zc @hg1 (zc @hL (zc @natZ (zc @natO (zc @ia (zc @ib (zc @ix (zc @hi @hj))))))))) t0 ?_
        refine zA0 ?_
        simp[q0r,h,hi,hj]
  · obtain⟨a,b,rfl⟩:=q7q (L:=L) (by rw[hlen];simp[q1c,q2e,two6,q0C,h])
    have hL:=show(slL [a,b]).av cI=AV.isl [[.int .i64 a],[.int .i64 b]]from rfl
    have ia:=q4P (hlt a (by simp))
    have ib:=q4P (hlt b (by simp))
    have ix:=q4P hxt
    cases hi:isT p.types.list a 1 with
    | false=>
      refine zR0f (zc @hg1 @h) ?_
      refine zEf (zc @hg0 (zc @hg1 (zc @hL (zc @natZ (zc @natO (zc @ia @hi)))))) t0 ?_
      refine zA0 ?_
      simp[q0r,h,hi]
    | true=>
      cases hj:isT p.types.list b 1 with
      | false=>
        refine zR0f (zc @hg1 @h) ?_
        refine zEf (zc @hg0 (zc @hg1 (zc @hL (zc @natZ (zc @natO (zc @ia (zc @ib (zc @hi @hj)))))))) t0 ?_
        refine zA0 ?_
        simp[q0r,h,hi,hj]
      | true=>
        refine zR0f (zc @hg1 @h) ?_
        refine zEf (zc @hg0 (zc @hg1 (zc @hL (zc @natZ (zc @natO (zc @ia (zc @ib (zc @ix (zc @hi @hj))))))))) t0 ?_
        refine zA0 ?_
        simp[q0r,h,hi,hj]
  · obtain⟨a,b,rfl⟩:=q7q (L:=L) (by rw[hlen];simp[q1c,q2e,two6,q0C,h])
    have hL:=show(slL [a,b]).av cI=AV.isl [[.int .i64 a],[.int .i64 b]]from rfl
    have ia:=q4P (hlt a (by simp))
    have ib:=q4P (hlt b (by simp))
    have ix:=q4P hxt
    cases hi:isT p.types.list a 1 with
    | false=>
      refine zR0f (zc @hg1 @h) ?_
      refine zEf (zc @hg0 (zc @hg1 (zc @hL (zc @natZ (zc @natO (zc @ia @hi)))))) t0 ?_
      refine zA0 ?_
      simp[q0r,h,hi]
    | true=>
      cases hj:isT p.types.list b 1 with
      | false=>
        refine zR0f (zc @hg1 @h) ?_
        refine zEf (zc @hg0 (zc @hg1 (zc @hL (zc @natZ (zc @natO (zc @ia (zc @ib (zc @hi @hj)))))))) t0 ?_
        refine zA0 ?_
        simp[q0r,h,hi,hj]
      | true=>
        refine zR0f (zc @hg1 @h) ?_
        refine zEf (zc @hg0 (zc @hg1 (zc @hL (zc @natZ (zc @natO (zc @ia (zc @ib (zc @ix (zc @hi @hj))))))))) t0 ?_
        refine zA0 ?_
        simp[q0r,h,hi,hj]
  · obtain⟨a,b,rfl⟩:=q7q (L:=L) (by rw[hlen];simp[q1c,q2e,two6,q0C,h])
    have hL:=show(slL [a,b]).av cI=AV.isl [[.int .i64 a],[.int .i64 b]]from rfl
    have ia:=q4P (hlt a (by simp))
    have ib:=q4P (hlt b (by simp))
    have ix:=q4P hxt
    cases hi:isT p.types.list a 1 with
    | false=>
      refine zR0f (zc @hg1 @h) ?_
      refine zEf (zc @hg0 (zc @hg1 (zc @hL (zc @natZ (zc @natO (zc @ia @hi)))))) t0 ?_
      refine zA0 ?_
      simp[q0r,h,hi]
    | true=>
      cases hj:isT p.types.list b 1 with
      | false=>
        refine zR0f (zc @hg1 @h) ?_
        refine zEf (zc @hg0 (zc @hg1 (zc @hL (zc @natZ (zc @natO (zc @ia (zc @ib (zc @hi @hj)))))))) t0 ?_
        refine zA0 ?_
        simp[q0r,h,hi,hj]
      | true=>
        refine zR0f (zc @hg1 @h) ?_
        refine zEf (zc @hg0 (zc @hg1 (zc @hL (zc @natZ (zc @natO (zc @ia (zc @ib (zc @ix (zc @hi @hj))))))))) t0 ?_
        refine zA0 ?_
        simp[q0r,h,hi,hj]
  · obtain⟨a,b,rfl⟩:=q7q (L:=L) (by rw[hlen];simp[q1c,q2e,two6,q0C,h])
    have hL:=show(slL [a,b]).av cI=AV.isl [[.int .i64 a],[.int .i64 b]]from rfl
    have ia:=q4P (hlt a (by simp))
    have ib:=q4P (hlt b (by simp))
    have ix:=q4P hxt
    cases hi:isT p.types.list a 2 with
    | false=>
      refine zR0f (zc @hg1 @h) ?_
      refine zEf (zc @hg0 (zc @hg1 (zc @hL (zc @natZ (zc @natO (zc @ia @hi)))))) t0 ?_
      refine zA0 ?_
      simp[q0r,h,hi]
    | true=>
      by_cases hab:a=b
      · subst hab
        refine zR0f (zc @hg1 @h) ?_
        refine zEf (zc @hg0 (zc @hg1 (zc @hL (zc @natZ (zc @natO (zc @ia (zc @ix @hi))))))) t0 ?_
        refine zA0 ?_
        simp[q0r,h,hi]
      · refine zR0f (zc @hg1 @h) ?_
        refine zEf (zc @hg0 (zc @hg1 (zc @hL (zc @natZ (zc @natO (zc @ia (zc @hi (Y2F hab)))))))) t0 ?_
        refine zA0 ?_
        simp[q0r,h,hi,hab]
  · have e2:=ei x.type 2 hxt
    refine zA1f (zc @hg0 (zc @hg1 @h)) q0R e2 ?_
    simp[q0r,h]
  · have e2:=ei x.type 2 hxt
    refine zA1f (zc @hg0 (zc @hg1 @h)) q0R e2 ?_
    simp[q0r,h]
  · obtain⟨a,rfl⟩:=z8p (L:=L) (by rw[hlen];simp[q1c,q2e,two6,q0C,h])
    have e2:=ei a 2 (hlt a (by simp))
    have hL:=show(slL [a]).av cI=AV.isl [[.int .i64 a]]from rfl
    refine zR0f (zc @hg1 @h) ?_
    refine zEf (zc @hg0 (zc @hg1 (zc @hL (zc @natZ (zc @q1C @q1D))))) (tl 52 [.agg [p.types.av LType.cells,p.funcs.av LFunc.cells],.int .i64 a,.int .u8 2] (.bool (isT p.types.list a 2)) (e2) t0) ?_
    refine zA0 ?_
    simp[q0r,h]
  · obtain⟨a,rfl⟩:=z8p (L:=L) (by rw[hlen];simp[q1c,q2e,two6,q0C,h])
    have e2:=q7H hP hX p hT x a a [] (by omega) (by omega) (hlt a (by simp)) (hlt a (by simp)) hxt
    simp only[LProg.cells,LIns.cells,h]at e2
    refine zA1f (zc @hg0 (zc @hg1 @h)) q2V e2 ?_
    simp[q0r,h]
  · obtain⟨a,b,rfl⟩:=q7q (L:=L) (by rw[hlen];simp[q1c,q2e,two6,q0C,h])
    have e2:=q7H hP hX p hT x a b [b] (fun _=>⟨[],rfl⟩) (by omega) (hlt a (by simp)) (hlt b (by simp)) hxt
    simp only[LProg.cells,LIns.cells,h]at e2
    refine zA1f (zc @hg0 (zc @hg1 @h)) q2V e2 ?_
    simp[q0r,h]
  · obtain⟨a,rfl⟩:=z8p (L:=L) (by rw[hlen];simp[q1c,q2e,two6,q0C,h])
    have e2:=q7H hP hX p hT x a a [] (by omega) (by omega) (hlt a (by simp)) (hlt a (by simp)) hxt
    simp only[LProg.cells,LIns.cells,h]at e2
    refine zA1f (zc @hg0 (zc @hg1 @h)) q2V e2 ?_
    simp[q0r,h]
  · obtain⟨a,b,rfl⟩:=q7q (L:=L) (by rw[hlen];simp[q1c,q2e,two6,q0C,h])
    have e2:=q7H hP hX p hT x a b [b] (fun _=>⟨[],rfl⟩) (by omega) (hlt a (by simp)) (hlt b (by simp)) hxt
    simp only[LProg.cells,LIns.cells,h]at e2
    refine zA1f (zc @hg0 (zc @hg1 @h)) q2V e2 ?_
    simp[q0r,h]
  · obtain⟨n0,n1⟩:=hn (.inr h)
    obtain⟨n,hnn⟩:=Y3j n0
    obtain⟨f,hf⟩:=q0b (show n<p.funcs.list.length by omega)
    have hfl:=Y2G (show n<p.funcs.list.length by omega)
    have hav:=q0j (e:=LFunc.cells) (show 0<p.funcs.list.length by omega)
    have hso:z2q p x.n=f.sig:=by simp[z2q,hnn,hf]
    have e2:=z3U hP p hT f.sig (slL L) x.type (hsg f (Y0N hf)) (by rw[q0l];exact hlm)
    rw[q0l]at e2
    simp only[LProg.cells,hav]at e2
    refine zR0f (zc @hg1 @h) ?_
    refine zEf (zc @hg0 (zc @hg1 (zc @hnn (zc @hfl (zc @hf (zc @hav (zc @q7A @q7C))))))) (tl 187 [.agg [p.types.av LType.cells,.isl (p.funcs.list.map LFunc.cells)],.int .i64 f.sig,(slL L).av cI,.int .i64 x.type] (.bool (q3p p.types.list f.sig L x.type)) (e2) t0) ?_
    refine zA0 ?_
    simp[q0r,h,hso]
  · obtain⟨a,r,rfl⟩:=x8b (L:=L) (by rw[hlen];simp[q1c,q2e,two6,q0C,h])
    have e2:=z3U hP p hT a (.mk r) x.type (hlt a (by simp)) (by simp only[Y2i]at hlm;simp[Sl.list];omega)
    rw[show(Sl.mk r).list=r from rfl]at e2
    have hL:=show(slL (a::r)).av cI=AV.isl ([.int .i64 a]::r.map cI)from rfl
    simp only[LProg.cells]at e2
    have hst:=fun h=>z6M (gl:=gl) (K:=(K.tellF q1N (isO p)).tell [(q4M,[.agg [p.types.av LType.cells,p.funcs.av LFunc.cells],.int .i64 a,.isl (r.map cI),.int .i64 x.type],.bool (q3p p.types.list a r x.type))]) a r h
    simp only[q0m,Y1f,cI]at hst
    refine zR0f (zc @hg1 @h) ?_
    refine zEf (zc @hg0 (zc @hg1 (zc @hL (zc @natZ (zc @hst (zc @q7A @q7C)))))) (tl 187 [.agg [p.types.av LType.cells,p.funcs.av LFunc.cells],.int .i64 a,.isl (r.map cI),.int .i64 x.type] (.bool (q3p p.types.list a r x.type)) (e2) t0) ?_
    refine zA0 ?_
    simp[q0r,h]
  · have e2:=ei x.type 1 hxt
    refine zA1f (zc @hg0 (zc @hg1 @h)) q0R e2 ?_
    simp[q0r,h]
  · obtain⟨a,rfl⟩:=z8p (L:=L) (by rw[hlen];simp[q1c,q2e,two6,q0C,h])
    have e2:=ei a 1 (hlt a (by simp))
    have hL:=show(slL [a]).av cI=AV.isl [[.int .i64 a]]from rfl
    refine zR0f (zc @hg1 @h) ?_
    refine zEf (zc @hg0 (zc @hg1 (zc @hL (zc @natZ (zc @q1C @q1D))))) (tl 52 [.agg [p.types.av LType.cells,p.funcs.av LFunc.cells],.int .i64 a,.int .u8 1] (.bool (isT p.types.list a 1)) (e2) t0) ?_
    refine zA0 ?_
    simp[q0r,h]
  · have e2:=z3Q hP p x.type
    simp only[LProg.cells]at e2
    have hlu:=fun h=>q3j (C:=Ctx.of Tryz.prog gl (K.tellF q1N (isO p))) (t:=q0m) (h:=h) (q2c (e:=cI) (slL L)) (q4B _)
    rw[q0l]at hlu
    dsimp only[q0m]at hlu
    refine zR0f (zc @hg1 @h) ?_
    refine Y2H (fun i:Nat=>[(2,(slL L).av cI),(3,.ptr 0 0),(4,.ptr 1 0),(7,.int .i64 i)]) (fun i g=>i≤L.length∧(L.take i).all (fun t=>decide (t=x.type))=true∧g.get 0=some (.cells q0o p.cells)∧g.get 1=some (.cells q1e x.cells)) (fun i=>L.length-i) (0) ?_ ?_ ?_
    focus(repeat' first|exact q0h|refine q0e (by simp) ?_)
    ·exact⟨Y0E _,by simp,hg0,hg1⟩
    clear hg0 hg1
    rintro i g ⟨hi,hall,hg0,hg1⟩
    dsimp only[q0o,q1e]at hg0 hg1
    refine zR0f @hlu ?_
    refine Y2w hP rfl (fun hc=>Y2s ?_) (fun hc=>Y2t ?_)
    · simp at hc
      obtain⟨t,ht⟩:=q0b hc
      have htv:=q0j (e:=cI) (x:=slL L) (by rw[q0l];omega)
      rw[q0l]at htv
      have hic:=Y2G hc
      have hs:=q1U (p:=fun t=>decide (t=x.type)) ht
      dsimp only[q0a]
      refine zEf (zc @hg0 (zc @hg1 (zc @ht (zc @htv @hic)))) t0 ?_
      repeat' first|refine zA0 ?_|(refine Y2w hP rfl (fun hc=> ?_) (fun hc=> ?_)<;>simp at hc)
      · have:L.all (fun t=>decide (t=x.type))=false:=Y3E.2 ⟨t,Y0N ht,by simp[hc]⟩
        simp[q0r,h,this]
      · refine⟨i+1,by omega,trivial,?_,by omega,by rw[hs,hall,hc];simp,hg0,hg1⟩
        exact zLf (zc (w64s (show i<9000000000000000000 by omega)) @htv)
    · simp at hc
      rw[Y2Q hc]at hall
      dsimp only[q0a]
      refine zA1f (zc @hg0 @hg1) q2i e2 ?_
      simp only[q0r,h,hall]
      simp
end Go.Ax
set_option maxRecDepth 20000
noncomputable section
namespace Go.Ax
open Go.Proofs
attribute [local irreducible] TW TO CallsT PureC
variable{F:Nat→Option Obj}{gl:Nat→AV}{K:Knob}{S S':Nat→Prop}
structure InsOk(p:LProg)(x:LFunc)(z:LIns):Prop where
 op:1≤z.op∧z.op≤22
 uses:∀r∈q1c z,0≤r∧r<q2Y p x
 type:0≤z.type∧z.type<p.types.list.length
 n:z.op=3∨z.op=18→0≤z.n∧z.n<p.funcs.list.length
 phi:z.op=22→z.frm.list.length=z.args.list.length∧1≤z.frm.list.length∧z.frm.list.length≤16∧∀b∈z.frm.list,0≤b∧b<x.blocks.list.length
 field:z.op=14→0≤z.n∧z.n<8
 args:z.args.list.length≤16
 frm:z.frm.list.length≤16
 noargs:q0C z.op=false→z.args.list.length=0
theorem low3{l:List Int}{n:Int}(h:q2R l n=true):∀r∈l,0≤r∧r<n:=fun r hr=>by
 have:=Y0G.1 h r hr
 simp at this
 omega
theorem FnAt.ins{p:LProg}{f:Nat}{x:LFunc}(H:FnAt p f x):∀b∈x.blocks.list,∀z∈b.ins.list,InsOk p x z:=by
 have h:=H.ok
 have h0:=H.sig
 simp only[q1b,Y1X]at h
 intro b hb z hz
 have h3:=Y0G.1 h.2 b hb
 simp only[q3c,Y1X]at h3
 have h6:=Y0G.1 h3.1 z hz
 simp only[q2u,z4F,z4E,z4D,Y1X,Y2q,Y2l,Y3t,Y3s]at h6
 obtain⟨⟨⟨a1,a2⟩,a3,a4⟩,⟨b1,b2,b3⟩,⟨c1,c2⟩,d⟩:=h6
 refine⟨by omega,low3 a3,?_,fun hop=> ?_,fun hop=> ?_,fun hop=> ?_,?_,?_,fun hh=> ?_⟩
 ·cases ha:q2K z.op with
  |true=>rw[ha]at c1;simp at c1;omega
  |false=>rw[ha]at c2;simp at c2;omega
 ·unfold x2J at a4
  rw[Y0c (by omega),Y0e hop]at a4
  simp at a4;omega
 ·unfold z2t at d
  rw[Y0e hop]at d
  simp only[Y1X,Y2h]at d
  exact⟨by omega,by omega,by omega,low3 d.2.2.2⟩
 ·unfold x2J at a4
  rw[Y0c (by omega),Y0c (by omega),Y0e hop]at a4
  simp at a4;omega
 ·unfold z2t at d
  split at d<;>simp only[Y1X,Y2h]at d<;>omega
 ·unfold z2t at d
  split at d<;>simp only[Y1X,Y2h]at d<;>omega
 ·rw[hh]at b3;simp at b3;simp[b3]
theorem FnAt.ends{p:LProg}{f:Nat}{x:LFunc}(H:FnAt p f x):∀b∈x.blocks.list,∀r∈q3h b.ed,0≤r∧r<q2Y p x:=by
 have h:=H.ok
 simp only[q1b,Y1X]at h
 intro b hb r hr
 have h3:=Y0G.1 h.2 b hb
 simp only[q3c,Y1X]at h3
 have h5:=h3.2
 unfold q3h at hr
 split at hr
 ·rename_i hk
  rw[Y2d]at hr
  subst hr
  unfold q4H at h5
  rcases hk with hk|hk
  ·rw[Y0c (by omega),Y0e hk]at h5
   simp only[Y1X]at h5
   exact low3 h5.1 b.ed.a (by simp)
  ·rw[Y0c (by omega),Y0c (by omega),Y0e hk]at h5
   simp only[Y1X]at h5
   exact low3 h5.2.2 b.ed.a (by simp)
 ·cases hr
theorem FnAt.small{p:LProg}{f:Nat}{x:LFunc}(H:FnAt p f x):x.blocks.list.length≤16∧1≤x.blocks.list.length∧∀b∈x.blocks.list,b.ins.list.length≤128:=by
 obtain⟨a1,a2,a3,a4,a5,a6⟩:=q1X H.ok
 refine⟨a5,a4,fun b hb=> ?_⟩
 obtain⟨i,hi⟩:=Y3B.1 hb
 have q1:=q6A hi
 have q2:=q8w x.blocks.list (i+1)
 have q3:=q1r (x.blocks.list.take i)
 omega
theorem z5q(hP:POk Tryz.prog F gl K)(hX:∀f a,K.ext f a=none){p:LProg}{f:Nat}{x:LFunc}(H:FnAt p f x)(L:Sl Int)(hL:∀r∈L.list,0≤r∧r<q2Y p x)(hlen:L.list.length<1000000):
  PureC Tryz.prog F q8a [.agg p.cells,.int .i64 f,L.av cI] (if q3H p x L.list=true then .tup [(slL (L.list.map (q0K p x))).av cI,.bool true]else .tup [.nilsl,.bool false]):=by
 refine Y2z (O:=fun u g=>frzV 5 g u=some (if q3H p x L.list=true then .tup [(slL (L.list.map (q0K p x))).av cI,.bool true]else .tup [.nilsl,.bool false])) (k:=5) (by simp) ?_ (fun u g e=>e)
 refine Y2y hP q0f z2Y rfl rfl ?_
 refine zA0 ?_
 refine Y2H (fun q:Nat×AV=>[(1,.int .i64 f),(2,L.av cI),(3,.ptr 0 0),(8,q.2),(9,.int .i64 q.1)]) (fun q g=>q.1≤L.list.length∧1≤g.nx∧g.get 0=some (.cells q0o p.cells)∧(L.list.take q.1).all (fun r=>decide (0≤q0K p x r))=true∧Own 1 q0x 1 g q.2 (((L.list.take q.1).map (q0K p x)).map cI)) (fun q=>L.list.length-q.1) ((0,.nilsl)) ?_ ?_ ?_
 focus(repeat' first|exact q0h|refine q0e (by simp) ?_)
 ·exact⟨Y0E _,by simp,by simp,by simp,.nil⟩
 rintro⟨i,v⟩ g ⟨hi,hnx,hg0,hall,hown⟩
 dsimp only[q0o,LProg.cells]at hi hnx hg0 hall hown⊢
 refine zR0 ?_
 refine Y2w hP rfl (fun hc=>Y2s ?_) (fun hc=>Y2t ?_)
 ·simp at hc
  obtain⟨r,hr⟩:=q0b hc
  have hic:=Y2G hc
  have hav:=q0j (e:=cI) (show 0<L.list.length by omega)
  obtain⟨b0,b1⟩:=hL r (Y0N hr)
  have e1:=x4p hP hX H r b0 b1
  have hs:=q1U (p:=fun r=>decide (0≤q0K p x r)) hr
  have hms:((L.list.take (i+1)).map (q0K p x)).map cI=((L.list.take i).map (q0K p x)).map cI++[[.int .i64 (q0K p x r)]]:=by
   rw[Y3L,hr];simp
  obtain⟨v',h',q1,q2,q3,q4⟩:=(show Own 1 q0x 1 g.z v _ from hown).push (t:=q0m) (row:=[.int .i64 (q0K p x r)]) (q1a (gl:=gl) (K:=K)) q1v rfl rfl (by simp;omega) hnx
  simp only[nx_z]at q1 q4
  dsimp only[q0m,q0x]at q1
  dsimp only[q0a]
  by_cases h0:0≤q0K p x r
  ·have hd:decide (q0K p x r<0)=false:=Y2F (by omega)
   refine zEf (zc @hg0 (zc @hr (zc @hav (zc @hic (zc @q8G @q8J))))) (tl 185 [.agg [p.types.av LType.cells,p.funcs.av LFunc.cells],.int .i64 f,.int .i64 r] (.int .i64 (q0K p x r)) (e1) t0) ?_
   refine zA0f (zc @hd @q1) ?_
   refine⟨(i+1,v'),by dsimp only;omega,trivial,?_,by dsimp only;omega,by omega,(q3.get 0 (by omega)).trans hg0,by rw[hs,hall];simp[h0],by rw[hms];exact q2⟩
   exact zLf (zc @hav (w64s (show i<9000000000000000000 by omega)))
  ·have hd:decide (q0K p x r<0)=true:=Y2G (by omega)
   refine zEf (zc @hg0 (zc @hr (zc @hav (zc @hic (zc @q8G @q8J))))) (tl 185 [.agg [p.types.av LType.cells,p.funcs.av LFunc.cells],.int .i64 f,.int .i64 r] (.int .i64 (q0K p x r)) (e1) t0) ?_
   refine zA0f @hd ?_
   have ht:q3H p x L.list=false:=Y3E.2 ⟨r,Y0N hr,by simpa using h0⟩
   rw[Y0c (by rw[ht];simp)]
   rfl
 ·simp at hc
  obtain rfl:i=L.list.length:=by omega
  rw[Y3n]at hall hown
  have ht:q3H p x L.list=true:=hall
  dsimp only[q0a]
  refine zA0 ?_
  rw[Y0e ht]
  have:=hown.slL
  unfold frzV
  simp only[mapO,this]
  rfl
theorem z3X(hP:POk Tryz.prog F gl K)(hX:∀f a,K.ext f a=none){p:LProg}{f:Nat}{x:LFunc}(H:FnAt p f x)(L:Sl Int)(hlen:L.list.length<1000000)(b:Nat)(hb:b<x.blocks.list.length)(at_:Int):
    PureC Tryz.prog F q7u [.agg p.cells,.int .i64 f,L.av cI,.int .i64 b,.int .i64 at_] (.bool (q1O p x L.list b at_)):=by
  refine zP z1V ?_
  refine zA0 ?_
  refine Y2H (fun i:Nat=>[(1,.int .i64 f),(2,L.av cI),(3,.int .i64 b),(4,.int .i64 at_),(5,.ptr 0 0),(11,.int .i64 i)]) (fun i g=>i≤L.list.length∧g.get 0=some (.cells q0o p.cells)∧(L.list.take i).all (fun r=>q3g p x r b at_)=true) (fun i=>L.list.length-i) (0) ?_ ?_ ?_
  focus(repeat' first|exact q0h|refine q0e (by simp) ?_)
  ·exact⟨Y0E _,by simp,by simp⟩
  rintro i g ⟨hi,hg0,hall⟩
  dsimp only[q0o,LProg.cells]at hg0
  refine zR0 ?_
  refine Y2w hP rfl (fun hc=>Y2s ?_) (fun hc=>Y2t ?_)
  · simp at hc
    obtain⟨r,hr⟩:=q0b hc
    have hic:=Y2G hc
    have hav:=q0j (e:=cI) (show 0<L.list.length by omega)
    have e1:=z8R hP hX H r b hb at_
    have hs:=q1U (p:=fun r=>q3g p x r b at_) hr
    dsimp only[q0a]
    cases h0:q3g p x r b at_ with
    | true=>
      rw[h0]at e1
      refine zEf (zc @hg0 (zc @hr (zc @hav (zc @hic (zc @q3u @q3x))))) (tl 190 [.agg [p.types.av LType.cells,p.funcs.av LFunc.cells],.int .i64 f,.int .i64 r,.int .i64 b,.int .i64 at_] (.bool true) (e1) t0) ?_
      refine zA0 ?_
      refine⟨i+1,by omega,trivial,?_,by omega,hg0,by rw[hs,hall,h0];rfl⟩
      exact zLf (zc @hav (w64s (show i<9000000000000000000 by omega)))
    | false=>
      rw[h0]at e1
      refine zEf (zc @hg0 (zc @hr (zc @hav (zc @hic (zc @q3u @q3x))))) (tl 190 [.agg [p.types.av LType.cells,p.funcs.av LFunc.cells],.int .i64 f,.int .i64 r,.int .i64 b,.int .i64 at_] (.bool false) (e1) t0) ?_
      refine zA0 ?_
      have ht:q1O p x L.list b at_=false:=Y3E.2 ⟨r,Y0N hr,by simp[h0]⟩
      rw[ht]
  · simp at hc
    obtain rfl:i=L.list.length:=by omega
    rw[Y3n]at hall
    have ht:q1O p x L.list b at_=true:=hall
    dsimp only[q0a]
    refine zA0 ?_
    rw[ht]
theorem z7e{l:List LBlock}{k:Nat}:(q1d l k).length≤k:=by
 unfold q1d
 rw[Y1q]
 exact Y0C (Y3G ..) (by simp)
theorem x2o(hP:POk Tryz.prog F gl K)(hX:∀f a,K.ext f a=none)(l:Sl LBlock)(hlen:l.list.length<1000000)(hl0:0<l.list.length)(hto:∀b∈l.list,∀t∈to9 b.ed,0≤t∧t<l.list.length):
    PureC Tryz.prog F q6V [l.av LBlock.cells] ((slL (q1d l.list l.list.length)).av cI):=by
  refine Y2z (O:=fun u g=>frzV 4 g u=some ((slL (q1d l.list l.list.length)).av cI)) (k:=4) (by simp) ?_ (fun u g e=>e)
  refine Y2y hP q0f z1l rfl rfl ?_
  have e1:=x1B hP hX l hlen hl0 hto
  refine zR0 ?_
  refine Y3y hP q6g (e1 (-1) _ _ _ (by simp) (by simp)) (by simp) rfl rfl rfl rfl (fun w g hO=> ?_)
  obtain⟨q,hw,rfl,hg,hn⟩:=hO
  refine Y2X hP (by simp<;>rfl) ?_
  try dsimp only[goK]
  refine zA0 ?_
  refine Y2H (fun z:Nat×AV=>[(2,.nilsl),(3,z.2),(4,.sl q 0 l.list.length l.list.length 1 true),(5,.int .i64 z.1)]) (fun z m=>z.1≤l.list.length∧g.nx≤m.nx∧m.get q=some (.cells z0z (bo (z0l l.list (-1))).flatten)∧Own 1 q0x g.nx m z.2 ((q1d l.list z.1).map cI)) (fun z=>l.list.length-z.1) ((0,.nilsl)) ?_ ?_ ?_
  focus(repeat' first|exact q0h|refine q0e (by simp) ?_)
  ·exact⟨Y0E _,Y0u _,hg,.nil⟩
  clear hg hw
  rintro⟨i,v⟩ m ⟨hi,hnx,hg,hown⟩
  dsimp only at hi hnx hg hown⊢
  refine zR0 ?_
  refine Y2w hP rfl (fun hc=>Y2s ?_) (fun hc=>Y2t ?_)
  · simp at hc
    obtain⟨c,hcb⟩:=q0b (show i<(z0l l.list (-1)).length by rw[z6W];exact hc)
    have hL:=fun t=>z0J (C:=Ctx.of Tryz.prog gl K) (t:=t) hg (z2w _) (x2Q hcb)
    simp only[Y2R]at hL
    have hic:=Y2G hc
    have hgd:(z0l l.list (-1)).getD i false=c:=by rw[Y3l,hcb];rfl
    have hsu:=z9K (l:=l.list) (k:=i)
    rw[hgd]at hsu
    have hle:=z7e (l:=l.list) (k:=i)
    obtain⟨v',h',q1,q2,q3,q4⟩:=hown.push (t:=q0m) (row:=[.int .i64 (i:Int)]) (q1a (gl:=gl) (K:=K)) q1v rfl rfl (by simp;omega) hnx
    dsimp only[q0m,q0x]at q1
    dsimp only[q0a]
    cases c with
    | true=>
      repeat' first|refine Y2v ?_|refine Y2x ?_|refine Y2I hP rfl ?_|(refine Y2W hP (by simp[hL,hic,q5G,q8q,(show¬m.nx≤q by omega),q1]<;>rfl) ?_;dsimp only[goK])|simp only[q0a,q0c,q0d,↓reduceIte,Nat.reduceEqDiff,reduceCtorEq]
      refine⟨(i+1,v'),by dsimp only;omega,trivial,?_,by dsimp only;omega,by omega,(q3.get q (by omega)).trans hg,by rw[hsu];simpa using q2⟩
      exact zLf (w64s (show i<9000000000000000000 by omega))
    | false=>
      repeat' first|refine Y2v ?_|refine Y2x ?_|refine Y2s ?_|refine Y2J hP rfl ?_|(refine Y2W hP (by simp[hL,hic,q5G,q8q,(show¬m.nx≤q by omega)]<;>rfl) ?_;dsimp only[goK])|simp only[q0a,q0c,q0d,↓reduceIte,Nat.reduceEqDiff,reduceCtorEq]
      refine⟨(i+1,v),by dsimp only;omega,trivial,?_,by dsimp only;omega,hnx,hg,by rw[hsu];simpa using hown⟩
      exact zLf (w64s (show i<9000000000000000000 by omega))
  · simp at hc
    obtain rfl:i=l.list.length:=by omega
    dsimp only[q0a]
    refine zA0 ?_
    exact hown.slL
theorem z6X{k:Nat}{p:Nat→Bool}:(List.range (k+1)).all p=((List.range k).all p&&p k):=by
 rw[Y3C,Y3p];simp
theorem q5S{k i:Nat}{p:Nat→Bool}(hi:i<k)(hp:p i=false):(List.range k).all p=false:=Y3E.2 ⟨i,Y2o.2 hi,by simp[hp]⟩
set_option maxHeartbeats 4000000 in
theorem x6p(hP:POk Tryz.prog F gl K)(hX:∀f a,K.ext f a=none){p:LProg}{f:Nat}{x:LFunc}(H:FnAt p f x)(b k:Nat){y:LBlock}{z:LIns}(hb:x.blocks.list[b]? =some y)(hz:y.ins.list[k]? =some z)(hop:z.op=22):
    PureC Tryz.prog F q6I [.agg p.cells,.int .i64 f,.int .i64 b,.int .i64 k] (.bool (x2I p x b k)):=by
  have hI:=H.ins y (Y0N hb) z (Y0N hz)
  obtain⟨hfa,hf1,hf16,hfb⟩:=hI.phi hop
  obtain⟨hs1,hs2,hs3⟩:=H.small
  have hyl:=hs3 y (Y0N hb)
  have hf:=H.at_
  have hfl:=Y2G (Y0m.1 hf).1
  have hfv:=q0j (e:=LFunc.cells) (show 0<p.funcs.list.length by have:=(Y0m.1 hf).1;omega)
  have hbl:=Y2G (Y0m.1 hb).1
  have hbv:=q0j (e:=LBlock.cells) (show 0<x.blocks.list.length by omega)
  have hzl:=(Y0m.1 hz).1
  have hzd:=Y2G hzl
  have hiv:=q0j (e:=LIns.cells) (show 0<y.ins.list.length by omega)
  have e1:=x4K hP x.blocks b (by omega)
  have e2:=q7J hP z.frm (slL (q1p x.blocks.list b x.blocks.list.length)) (by omega)
  rw[q0l]at e2
  rw[hbv]at e1
  have hia:=q7F hb hz
  refine zP z5d ?_
  refine zG ?_
  refine zGf (zc @hf (zc @hfl (zc @hfv (zc @hb (zc @hbl @hbv))))) ?_
  refine Y2U (fun g=>g.get 0=some (.cells q0o p.cells)∧g.get 1=some (.cells q1Q y.cells)∧g.nx=2) ⟨by simp[hfv],by simp,by simp⟩ fun g hg=> ?_
  obtain⟨hg0,hg1,hnx⟩:=hg
  dsimp only[q0o,q1Q,LBlock.cells,LEnd.cells]at hg0 hg1
  refine zGf (zc @hg0 (zc @hg1 (zc @hz (zc @hzd @hiv)))) ?_
  rw[hnx]
  refine Y2U (fun m=>m.get 0=some (.cells q0o p.cells)∧m.get 1=some (.cells q1Q y.cells)∧m.get 2=some (.cells q1e z.cells)) ⟨by simp[hnx];exact hg0,by simp[hnx];exact hg1,by simp[hnx]⟩ fun m hm=> ?_
  clear hg0 hg1 hnx
  obtain⟨hg0,hg1,hg2⟩:=hm
  dsimp only[q0o,q1Q,q1e,LBlock.cells,LEnd.cells,LIns.cells]at hg0 hg1 hg2
  have hph:x2I p x b k=(q6N z.frm.list (q1p x.blocks.list b x.blocks.list.length)&&((decide (k=0)||decide ((z2s x.blocks.list b (k-1)).op=22))&&(List.range z.frm.list.length).all fun k=>q3g p x (z.args.list.getD k 0) (z.frm.list.getD k 0) (q8r x.blocks.list (z.frm.list.getD k 0)))):=by
    simp only[x2I,hia]
  rw[hph]
  cases hsm:q6N z.frm.list (q1p x.blocks.list b x.blocks.list.length)with
  | false=>
    rw[hsm]at e2
    refine zEf (zc @hg0 (zc @hg1 (zc @hg2 (zc @hf (zc @hfl (zc @hfv (zc @hbv (zc @q3v (zc @q3y (zc @q2A @q2C)))))))))) (tl 189 [.isl (x.blocks.list.map LBlock.cells),.int .i64 b] ((slL (q1p x.blocks.list b x.blocks.list.length)).av cI) (e1) (tl 17 [z.frm.av cI,(slL (q1p x.blocks.list b x.blocks.list.length)).av cI] (.bool false) (e2) t0)) ?_
    refine zA0 ?_
    rfl
  | true =>
    rw[hsm]at e2
    refine Y3r (fun _:Unit=>[(1,.int .i64 f),(2,.int .i64 b),(3,.int .i64 k),(4,.ptr 0 0),(9,.ptr 1 0),(10,.ptr 2 0)]) (fun _ g=>g.get 0=some (.cells q0o p.cells)∧g.get 2=some (.cells q1e z.cells)∧(decide (k=0)||decide ((z2s x.blocks.list b (k-1)).op=22))=true) ?_ ?_
    · by_cases hk:k=0
      · subst hk
        refine zEf (zc @hg0 (zc @hg1 (zc @hg2 (zc @hf (zc @hfl (zc @hfv (zc @hbv (zc @q3v (zc @q3y (zc @q2A @q2C)))))))))) (tl 189 [.isl (x.blocks.list.map LBlock.cells),.int .i64 b] ((slL (q1p x.blocks.list b x.blocks.list.length)).av cI) (e1) (tl 17 [z.frm.av cI,(slL (q1p x.blocks.list b x.blocks.list.length)).av cI] (.bool true) (e2) t0)) ?_
        refine zA0 ?_
        refine⟨(),rfl,?_,hg0,hg2,by simp⟩
        exact zL
      · obtain⟨k',rfl⟩:∃k',k=k'+1:=⟨k-1,by omega⟩
        obtain⟨w,hw⟩:=q0b (show k'<y.ins.list.length by omega)
        have hwd:=Y2G (show k'<y.ins.list.length by omega)
        have hk0:decide ((0:Int)<((k'+1:Nat):Int))=true:=Y2G (by omega)
        have hw64:=w64e (n:=((k'+1:Nat):Int)-1) (by omega) (by omega)
        have hk1:((k'+1:Nat):Int)-1=(k':Int):=by omega
        rw[hk1]at hw64
        have hw64':w64 (((k':Int)+1)+ -1)=(k':Int):=by rw[show((k':Int)+1)+ -1=(k':Int) by omega];exact hw64
        have hwa:z2s x.blocks.list b (k'+1-1)=w:=q7F hb hw
        rw[hwa]
        by_cases h22:w.op=22
        · refine zEf (zc @hg0 (zc @hg1 (zc @hg2 (zc @hf (zc @hfl (zc @hfv (zc @hbv (zc @hw (zc @hwd (zc @hiv (zc @hk0 (zc @hk1 (zc @hw64 (zc @h22 (zc @q3v (zc @q3y (zc @q2A @q2C))))))))))))))))) (tl 189 [.isl (x.blocks.list.map LBlock.cells),.int .i64 b] ((slL (q1p x.blocks.list b x.blocks.list.length)).av cI) (e1) (tl 17 [z.frm.av cI,(slL (q1p x.blocks.list b x.blocks.list.length)).av cI] (.bool true) (e2) t0)) ?_
          refine zA0 ?_
          refine⟨(),rfl,?_,hg0,hg2,by simp[h22]⟩
          exact zL
        · have h22':=Y2F h22
          refine zEf (zc @hg0 (zc @hg1 (zc @hg2 (zc @hf (zc @hfl (zc @hfv (zc @hbv (zc @hw (zc @hwd (zc @hiv (zc @hk0 (zc @hk1 (zc @hw64 (zc @h22 (zc @h22' (zc @q3v (zc @q3y (zc @q2A @q2C)))))))))))))))))) (tl 189 [.isl (x.blocks.list.map LBlock.cells),.int .i64 b] ((slL (q1p x.blocks.list b x.blocks.list.length)).av cI) (e1) (tl 17 [z.frm.av cI,(slL (q1p x.blocks.list b x.blocks.list.length)).av cI] (.bool true) (e2) t0)) ?_
          refine zA0 ?_
          simp[h22]
    rintro _ g ⟨hg0,hg2,hfst⟩
    dsimp only[q0o,q1e,LProg.cells,LIns.cells]at hg0 hg2
    rw[hfst]
    refine zA0 ?_
    refine Y2H (fun i:Nat=>[(1,.int .i64 f),(4,.ptr 0 0),(10,.ptr 2 0),(11,.int .i64 i)]) (fun i g=>i≤z.frm.list.length∧g.get 0=some (.cells q0o p.cells)∧g.get 2=some (.cells q1e z.cells)∧((List.range i).all fun k=>q3g p x (z.args.list.getD k 0) (z.frm.list.getD k 0) (q8r x.blocks.list (z.frm.list.getD k 0)))=true) (fun i=>z.frm.list.length-i) (0) ?_ ?_ ?_
    focus(repeat' first|exact q0h|refine q0e (by simp) ?_)
    ·exact⟨Y0E _,hg0,hg2,by simp⟩
    clear hg0 hg2
    rintro i g ⟨hi,hg0,hg2,hall⟩
    dsimp only[q0o,q1e,LProg.cells,LIns.cells]at hg0 hg2
    refine zR0f @hg2 ?_
    refine Y2w hP rfl (fun hc=>Y2s ?_) (fun hc=>Y2t ?_)
    · simp at hc
      obtain⟨a,ha⟩:=q0b (show i<z.args.list.length by omega)
      obtain⟨c,hcc⟩:=q0b hc
      obtain⟨c0,c1⟩:=hfb c (Y0N hcc)
      obtain⟨c,rfl⟩:=Y3j c0
      obtain⟨yc,hyc⟩:=q0b (show c<x.blocks.list.length by omega)
      have hcl:=Y2G (show c<x.blocks.list.length by omega)
      have had:=Y2G (show i<z.args.list.length by omega)
      have hcd:=Y2G hc
      have hav:=q0j (e:=cI) (show 0<z.args.list.length by omega)
      have hrv:=q0j (e:=cI) (show 0<z.frm.list.length by omega)
      have e3:=z8R hP hX H a c (by omega) yc.ins.list.length
      simp only[LProg.cells,hfv]at e3
      have hv:q3g p x (z.args.list.getD i 0) (z.frm.list.getD i 0) (q8r x.blocks.list (z.frm.list.getD i 0))=q3g p x a c yc.ins.list.length:=by
        simp[Y3l,ha,hcc,q8r,hyc]
      dsimp only[q0a]
      cases h0:q3g p x a c yc.ins.list.length with
      | true=>
        rw[h0]at e3 hv
        refine zEf (zc @hg0 (zc @hg2 (zc @hf (zc @hfl (zc @hfv (zc @hbv (zc @ha (zc @had (zc @hav (zc @hcc (zc @hcd (zc @hrv (zc @hyc (zc @hcl (zc @q3u @q3x))))))))))))))) (tl 190 [.agg [p.types.av LType.cells,.isl (p.funcs.list.map LFunc.cells)],.int .i64 f,.int .i64 a,.int .i64 c,.int .i64 yc.ins.list.length] (.bool true) (e3) t0) ?_
        refine zA0 ?_
        refine⟨i+1,by omega,trivial,?_,by omega,hg0,hg2,by rw[z6X,hall,hv];rfl⟩
        exact zLf (w64s (show i<9000000000000000000 by omega))
      | false=>
        rw[h0]at e3 hv
        refine zEf (zc @hg0 (zc @hg2 (zc @hf (zc @hfl (zc @hfv (zc @hbv (zc @ha (zc @had (zc @hav (zc @hcc (zc @hcd (zc @hrv (zc @hyc (zc @hcl (zc @q3u @q3x))))))))))))))) (tl 190 [.agg [p.types.av LType.cells,.isl (p.funcs.list.map LFunc.cells)],.int .i64 f,.int .i64 a,.int .i64 c,.int .i64 yc.ins.list.length] (.bool false) (e3) t0) ?_
        refine zA0 ?_
        rw[q5S hc hv]
        rfl
    · simp at hc
      obtain rfl:i=z.frm.list.length:=by omega
      dsimp only[q0a]
      refine zA0 ?_
      rw[hall]
      rfl
theorem z0E{p:LProg}{f:Nat}{x:LFunc}(H:FnAt p f x)(r:Int):q0K p x r<p.types.list.length:=by
 have h0:=H.sig
 unfold q0K
 split
 ·rename_i b i hw
  obtain⟨_,y,hy,hi,_⟩:=q6C hw
  rw[Y1H]at hy
  obtain⟨z,hz⟩:=q0b hi
  rw[q7F hy hz,z0w]
  have:=(H.ins y (Y0N hy) z (Y0N hz)).type
  split<;>omega
 ·unfold q1z
  split
  ·rename_i ty hty
   rw[Y3l]
   cases hq:ty.parts.list[r.toNat]? with
   |none=>simp;omega
   |some q=>have:=H.ty.part ty (Y0N hty) q (Y0N hq);simp;omega
  ·simp;omega
theorem x0H{z:LIns}(h:z.args.list.length≤16):(q1c z).length≤18:=by
 unfold q1c
 simp only[Y0X]
 (repeat' split)<;>simp<;>omega
set_option maxHeartbeats 4000000 in
theorem x1L(hP:POk Tryz.prog F gl K)(hX:∀f a,K.ext f a=none){p:LProg}{f:Nat}{x:LFunc}(H:FnAt p f x)(b k:Nat){y:LBlock}{z:LIns}(hb:x.blocks.list[b]? =some y)(hz:y.ins.list[k]? =some z):
    PureC Tryz.prog F q5g [.agg p.cells,.int .i64 f,.int .i64 b,.int .i64 k] (.bool (q5b p x b k)):=by
  have hI:=H.ins y (Y0N hb) z (Y0N hz)
  obtain⟨hs1,hs2,hs3⟩:=H.small
  have hyl:=hs3 y (Y0N hb)
  have hf:=H.at_
  have hfl:=Y2G (Y0m.1 hf).1
  have hfv:=q0j (e:=LFunc.cells) (show 0<p.funcs.list.length by have:=(Y0m.1 hf).1;omega)
  have hbl:=Y2G (Y0m.1 hb).1
  have hbv:=q0j (e:=LBlock.cells) (show 0<x.blocks.list.length by omega)
  have hzl:=(Y0m.1 hz).1
  have hzd:=Y2G hzl
  have hiv:=q0j (e:=LIns.cells) (show 0<y.ins.list.length by omega)
  have hul:=x0H hI.args
  have e1:=z8y hP z (by have:=hI.args;omega)
  rw[z6F]at e1
  have e2:=z5q hP hX H (slL (q1c z)) (by rw[q0l];exact hI.uses) (by rw[q0l];omega)
  rw[q0l]at e2
  have hia:=q7F hb hz
  have hrt:q5b p x b k=(q3H p x (q1c z)&&(q0r p z ((q1c z).map (q0K p x))&&if z.op=22 then x2I p x b k else q1O p x (q1c z) b k)):=by
    simp only[q5b,hia]
  rw[hrt]
  clear hrt
  have e3:=x2m hP hX p H.ty z ((q1c z).map (q0K p x)) (by simp) (by simp;omega) (fun t ht=>by obtain⟨r,_,rfl⟩:=Y2S.1 ht;exact z0E H r) hI.type.2 hI.op hI.n (fun g hg=>(H.sigs g hg).2)
  have e5:=z3X hP hX H (slL (q1c z)) (by rw[q0l];omega) b (Y0m.1 hb).1 k
  rw[q0l]at e5
  have e4:=fun h=>x6p hP hX H b k hb hz h
  obtain⟨vr,hvr⟩:∃vr,vr=(q3H p x (q1c z)&&(q0r p z ((q1c z).map (q0K p x))&&if z.op=22 then x2I p x b k else q1O p x (q1c z) b k)):=⟨_,rfl⟩
  rw[←hvr]
  refine zP z2Z ?_
  refine zG ?_
  refine zGf (zc @hf (zc @hfl (zc @hfv (zc @hb (zc @hbl (zc @hbv (zc @hz (zc @hzd @hiv)))))))) ?_
  refine Y2U (fun g=>g.get 0=some (.cells q0o p.cells)∧g.get 1=some (.cells q1e z.cells)) ⟨by simp[hfv],by simp⟩ fun g hg=> ?_
  obtain⟨hg0,hg1⟩:=hg
  dsimp only[q0o,q1e,LProg.cells,LIns.cells]at hg0 hg1 e1 e2 e3 e4 e5
  cases ht:q3H p x (q1c z)with
  | false=>
    rw[ht]at e2 hvr
    simp only[Y1d]at hvr
    simp only[Y1l,Y1m]at e2
    refine zEf (zc @hg0 (zc @hg1 (zc @q6k (zc @q6l (zc @q3t @q3w))))) (tl 85 [.agg [.int .u8 z.op,.int .i64 z.type,.int .i64 z.a,.int .i64 z.b,.int .i64 z.n,z.args.av cI,z.frm.av cI]] ((slL (q1c z)).av cI) (e1) (tl 139 [.agg [p.types.av LType.cells,p.funcs.av LFunc.cells],.int .i64 f,(slL (q1c z)).av cI] (.tup [.nilsl,.bool false]) (e2) t0)) ?_
    refine zA0 ?_
    rw[hvr]
  | true=>
    rw[ht]at e2 hvr
    simp only[Y0g]at hvr
    simp only[Y1n]at e2
    refine zEf (zc @hg0 (zc @hg1 (zc @q6k (zc @q6l (zc @q3t @q3w))))) (tl 85 [.agg [.int .u8 z.op,.int .i64 z.type,.int .i64 z.a,.int .i64 z.b,.int .i64 z.n,z.args.av cI,z.frm.av cI]] ((slL (q1c z)).av cI) (e1) (tl 139 [.agg [p.types.av LType.cells,p.funcs.av LFunc.cells],.int .i64 f,(slL (q1c z)).av cI] (.tup [(slL ((q1c z).map (q0K p x))).av cI,.bool true]) (e2) t0)) ?_
    cases hty:q0r p z ((q1c z).map (q0K p x))with
    | false=>
      rw[hty]at e3 hvr
      simp only[Y1d]at hvr
      refine zA1f (zc @hg0 @hg1) q5t e3 ?_
      rw[hvr]
    | true=>
      rw[hty]at e3 hvr
      simp only[Y0g]at hvr
      by_cases h22:z.op=22
      · rw[Y0e h22]at hvr
        have e4:=e4 h22
        have h22':=Y2G h22
        refine zA2f (zc @hg0 (zc @hg1 @h22')) q5t e3 z4Y e4 ?_
        rw[hvr]
      · rw[Y0c h22]at hvr
        have h22':=Y2F h22
        refine zR1f (zc @hg0 (zc @hg1 @h22')) q5t e3 ?_
        skip
        refine zEf (zc @hg0 (zc @hg1 (zc @q6k (zc @q6l (zc @q2W @q2X))))) (tl 85 [.agg [.int .u8 z.op,.int .i64 z.type,.int .i64 z.a,.int .i64 z.b,.int .i64 z.n,z.args.av cI,z.frm.av cI]] ((slL (q1c z)).av cI) (e1) (tl 142 [.agg [p.types.av LType.cells,p.funcs.av LFunc.cells],.int .i64 f,(slL (q1c z)).av cI,.int .i64 b,.int .i64 k] (.bool (q1O p x (q1c z) b k)) (e5) t0)) ?_
        refine zA0 ?_
        rw[hvr]
set_option maxHeartbeats 4000000 in
theorem x6Q (hP:POk Tryz.prog F gl K)(hX:∀f a,K.ext f a=none){p:LProg}{f:Nat}{x:LFunc}(H:FnAt p f x)(b:Nat){y:LBlock}(hb:x.blocks.list[b]? =some y):
    PureC Tryz.prog F q3N [.agg p.cells,.int .i64 f,.int .i64 b] (.bool (z3p p x b y)):=by
  obtain⟨hs1,hs2,hs3⟩:=H.small
  have hyl:=hs3 y (Y0N hb)
  have hf:=H.at_
  have hE:=H.ends y (Y0N hb)
  have hfl:=Y2G (Y0m.1 hf).1
  have hfv:=q0j (e:=LFunc.cells) (show 0<p.funcs.list.length by have:=(Y0m.1 hf).1;omega)
  have hbl:=Y2G (Y0m.1 hb).1
  have hbv:=q0j (e:=LBlock.cells) (show 0<x.blocks.list.length by omega)
  have hel:(q3h y.ed).length≤1:=by unfold q3h;split<;>simp
  have e1:=x6P hP y.ed
  rw[z6F]at e1
  have e2:=z5q hP hX H (slL (q3h y.ed)) (by rw[q0l];exact hE) (by rw[q0l];omega)
  have e3:=z3X hP hX H (slL (q3h y.ed)) (by rw[q0l];omega) b (Y0m.1 hb).1 y.ins.list.length
  rw[q0l]at e2 e3
  have e4:=z9E hP y.ed
  have e5:=x5z hP (slL (to9 y.ed)) 0 (by rw[q0l];have:=z6D y.ed;omega)
  rw[q0l]at e5
  obtain⟨vr,hvr⟩:∃vr,vr=z3p p x b y:=⟨_,rfl⟩
  rw[←hvr]
  unfold z3p at hvr
  refine zP z0s ?_
  refine zG ?_
  refine zGf (zc @hf (zc @hfl (zc @hfv (zc @hb (zc @hbl @hbv))))) ?_
  refine Y2U (fun g=>g.get 0=some (.cells q0o p.cells)∧g.get 1=some (.cells q1Q y.cells)) ⟨by simp[hfv],by simp⟩ fun g hg=> ?_
  obtain⟨hg0,hg1⟩:=hg
  dsimp only[q0o,q1Q,LProg.cells,LBlock.cells,LEnd.cells]at hg0 hg1 e1 e2 e3 e4 e5
  cases ht:q3H p x (q3h y.ed)with
  | false=>
    rw[ht]at e2 hvr
    simp only[Y1d]at hvr
    simp only[Y1l,Y1m]at e2
    refine zEf (zc @hg0 (zc @hg1 (zc @q2M (zc @q2N (zc @q3t @q3w))))) (tl 83 [.agg [.int .u8 y.ed.kind,.int .i64 y.ed.a,.int .i64 y.ed.to,.int .i64 y.ed.els]] ((slL (q3h y.ed)).av cI) (e1) (tl 139 [.agg [p.types.av LType.cells,p.funcs.av LFunc.cells],.int .i64 f,(slL (q3h y.ed)).av cI] (.tup [.nilsl,.bool false]) (e2) t0)) ?_
    refine zEf (zc @hg0 @hg1) t0 ?_
    refine zA0 ?_
    rw[hvr]
  | true =>
    rw[ht]at e2 hvr
    simp only[Y0g]at hvr
    simp only[Y1n]at e2
    refine zEf (zc @hg0 (zc @hg1 (zc @q2M (zc @q2N (zc @q3t @q3w))))) (tl 83 [.agg [.int .u8 y.ed.kind,.int .i64 y.ed.a,.int .i64 y.ed.to,.int .i64 y.ed.els]] ((slL (q3h y.ed)).av cI) (e1) (tl 139 [.agg [p.types.av LType.cells,p.funcs.av LFunc.cells],.int .i64 f,(slL (q3h y.ed)).av cI] (.tup [(slL ((q3h y.ed).map (q0K p x))).av cI,.bool true]) (e2) t0)) ?_
    cases hst:q1O p x (q3h y.ed) b y.ins.list.length with
    | false=>
      rw[hst]at e3 hvr
      simp only[Y1d]at hvr
      refine zEf (zc @hg0 (zc @hg1 (zc @q2M (zc @q2N (zc @q2W @q2X))))) (tl 83 [.agg [.int .u8 y.ed.kind,.int .i64 y.ed.a,.int .i64 y.ed.to,.int .i64 y.ed.els]] ((slL (q3h y.ed)).av cI) (e1) (tl 142 [.agg [p.types.av LType.cells,p.funcs.av LFunc.cells],.int .i64 f,(slL (q3h y.ed)).av cI,.int .i64 b,.int .i64 y.ins.list.length] (.bool false) (e3) t0)) ?_
      refine zA0 ?_
      rw[hvr]
    | true =>
      rw[hst]at e3 hvr
      simp only[Y0g]at hvr
      cases hin:in27 (to9 y.ed) 0 with
      | true=>
        rw[hin]at e5 hvr
        simp only[Y1k,Y1d]at hvr
        refine zEf (zc @hg0 (zc @hg1 (zc @q2M (zc @q2N (zc @q2W (zc @q2X (zc @z0f (zc @z0h (zc @z0g @z0i))))))))) (tl 83 [.agg [.int .u8 y.ed.kind,.int .i64 y.ed.a,.int .i64 y.ed.to,.int .i64 y.ed.els]] ((slL (q3h y.ed)).av cI) (e1) (tl 142 [.agg [p.types.av LType.cells,p.funcs.av LFunc.cells],.int .i64 f,(slL (q3h y.ed)).av cI,.int .i64 b,.int .i64 y.ins.list.length] (.bool true) (e3) (tl 144 [.agg [.int .u8 y.ed.kind,.int .i64 y.ed.a,.int .i64 y.ed.to,.int .i64 y.ed.els]] ((slL (to9 y.ed)).av cI) (e4) (tl 143 [(slL (to9 y.ed)).av cI,.int .i64 0] (.bool true) (e5) t0)))) ?_
        refine zA0 ?_
        rw[hvr]
      | false=>
        rw[hin]at e5 hvr
        simp only[Y3f,Y0g]at hvr
        refine zEf (zc @hg0 (zc @hg1 (zc @q2M (zc @q2N (zc @q2W (zc @q2X (zc @z0f (zc @z0h (zc @z0g @z0i))))))))) (tl 83 [.agg [.int .u8 y.ed.kind,.int .i64 y.ed.a,.int .i64 y.ed.to,.int .i64 y.ed.els]] ((slL (q3h y.ed)).av cI) (e1) (tl 142 [.agg [p.types.av LType.cells,p.funcs.av LFunc.cells],.int .i64 f,(slL (q3h y.ed)).av cI,.int .i64 b,.int .i64 y.ins.list.length] (.bool true) (e3) (tl 144 [.agg [.int .u8 y.ed.kind,.int .i64 y.ed.a,.int .i64 y.ed.to,.int .i64 y.ed.els]] ((slL (to9 y.ed)).av cI) (e4) (tl 143 [(slL (to9 y.ed)).av cI,.int .i64 0] (.bool false) (e5) t0)))) ?_
        by_cases k2:y.ed.kind=2
        · rw[Y0e k2]at hvr
          have hes:q3h y.ed= [y.ed.a]:=Y0e (.inl k2)
          rw[hes]
          have hL:=show(slL [q0K p x y.ed.a]).av cI=AV.isl [[.int .i64 (q0K p x y.ed.a)]]from rfl
          have e6:=q5N hP p (q0K p x y.ed.a) 1 (z0E H _)
          dsimp only[LProg.cells]at e6
          rw[←hvr]at e6
          refine zR0f (zc @hg1 @k2) ?_
          refine zEf (zc @hg0 (zc @hg1 (zc @hL (zc @natZ (zc @q1C @q1D))))) (tl 52 [.agg [p.types.av LType.cells,p.funcs.av LFunc.cells],.int .i64 (q0K p x y.ed.a),.int .u8 1] (.bool vr) (e6) t0) ?_
          (refine Y2u ⟨.inr rfl,_,_,rfl,rfl,?_⟩;dsimp only[q0q])
        · rw[Y0c k2]at hvr
          have k2':=Y2F k2
          by_cases k3:y.ed.kind=3
          · rw[Y0e k3]at hvr
            have hes:q3h y.ed= [y.ed.a]:=Y0e (.inr k3)
            rw[hes]
            have hL:=show(slL [q0K p x y.ed.a]).av cI=AV.isl [[.int .i64 (q0K p x y.ed.a)]]from rfl
            obtain⟨sg0,sg1⟩:=H.sig
            obtain⟨sg,hsg⟩:=Y3j sg0
            obtain⟨ty,hty⟩:=q0b (show sg<p.types.list.length by omega)
            have htv:=q0j (e:=LType.cells) (show 0<p.types.list.length by omega)
            have hsl:=Y2G (show sg<p.types.list.length by omega)
            have hea:q1V p.types.list x.sig=ty.elem:=by simp[q1V,hsg,hty]
            rw[hea]at hvr
            refine zR0f (zc @hg1 @k3) ?_
            refine zEf (zc @hg0 (zc @hg1 (zc @hL (zc @natZ (zc @hf (zc @hfl (zc @hfv (zc @hsg (zc @hty (zc @htv @hsl)))))))))) t0 ?_
            refine zA0 ?_
            rw[hvr]
          · rw[Y0c k3]at hvr
            have k3':=Y2F k3
            refine zA0f (zc @hg1 (zc @k2' @k3')) ?_
            rw[hvr]
set_option maxHeartbeats 4000000 in
theorem x3L(hP:POk Tryz.prog F gl K)(hX:∀f a,K.ext f a=none){p:LProg}{f:Nat}{x:LFunc}(H:FnAt p f x):PureC Tryz.prog F q3O [.agg p.cells,.int .i64 f] (.bool (q9Z p x)):=by
  obtain⟨hs1,hs2,hs3⟩:=H.small
  have hf:=H.at_
  have hfl:=Y2G (Y0m.1 hf).1
  have hfv:=q0j (e:=LFunc.cells) (show 0<p.funcs.list.length by have:=(Y0m.1 hf).1;omega)
  have hbv:=q0j (e:=LBlock.cells) (show 0<x.blocks.list.length by omega)
  have e1:=x2o hP hX x.blocks (by omega) (by omega) (q4d H.ok)
  rw[hbv]at e1
  have hrl:=q0l (q1d x.blocks.list x.blocks.list.length)
  obtain⟨vr,hvr⟩:∃vr,vr=q9Z p x:=⟨_,rfl⟩
  rw[←hvr]
  unfold q9Z at hvr
  refine zP z0t ?_
  refine zG ?_
  refine Y2U (fun g=>g.get 0=some (.cells q0o p.cells)) (by simp) fun g hg0=> ?_
  dsimp only[q0o,LProg.cells]at hg0
  by_cases hlen:(q1d x.blocks.list x.blocks.list.length).length=x.blocks.list.length
  · rw [Y2G hlen,Y0g]at hvr
    have hd:decide (((q1d x.blocks.list x.blocks.list.length).length:Int)=x.blocks.list.length)=true:=Y2G (by omega)
    refine zEf (zc @hg0 (zc @hf (zc @hfl (zc @hfv (zc @hbv (zc @hrl (zc @hd (zc @q6Y @q7a)))))))) (tl 96 [.isl (x.blocks.list.map LBlock.cells)] ((slL (q1d x.blocks.list x.blocks.list.length)).av cI) (e1) t0) ?_
    refine zA0 ?_
    refine Y2H (fun b:Nat=>[(1,.int .i64 f),(2,.ptr 0 0),(5,.int .i64 b)]) (fun b g=>b≤x.blocks.list.length∧g.get 0=some (.cells q0o p.cells)∧(List.range b).all (q2m p x)=true) (fun b=>x.blocks.list.length-b) (0) ?_ ?_ ?_
    focus(repeat' first|exact q0h|refine q0e (by simp) ?_)
    ·exact⟨Y0E _,hg0,by simp⟩
    clear hg0
    rintro b g ⟨hi,hg0,hall⟩
    dsimp only[q0o,LProg.cells]at hg0
    refine zR0f (zc @hg0 (zc @hf (zc @hfl @hfv))) ?_
    refine Y2w hP rfl (fun hc=>Y2s ?_) (fun hc=>Y2t ?_)
    · simp at hc
      obtain⟨y,hb⟩:=q0b hc
      have hbl:=Y2G hc
      have hyl:=hs3 y (Y0N hb)
      have hbk:q2m p x b=(((List.range y.ins.list.length).all fun i=>q5b p x b i)&&z3p p x b y):=by simp[q2m,hb]
      dsimp only[q0a]
      refine zA0 ?_
      refine Y2H (fun k:Nat=>[(1,.int .i64 f),(2,.ptr 0 0),(5,.int .i64 b),(6,.int .i64 k)]) (fun k g=>k≤y.ins.list.length∧g.get 0=some (.cells q0o p.cells)∧((List.range k).all fun i=>q5b p x b i)=true) (fun k=>y.ins.list.length-k) (0) ?_ ?_ ?_
      focus(repeat' first|exact q0h|refine q0e (by simp) ?_)
      ·exact⟨Y0E _,hg0,by simp⟩
      clear hg0
      rintro k g ⟨hk,hg0,hin⟩
      dsimp only[q0o,LProg.cells]at hg0
      refine zR0f (zc @hg0 (zc @hf (zc @hfl (zc @hfv (zc @hbv (zc @hb @hbl)))))) ?_
      refine Y2w hP rfl (fun hc=>Y2s ?_) (fun hc=>Y2t ?_)
      · simp at hc
        obtain⟨z,hz⟩:=q0b hc
        have e2:=x1L hP hX H b k hb hz
        simp only[LProg.cells]at e2
        dsimp only[q0a]
        cases h0:q5b p x b k with
        | true=>
          rw[h0]at e2
          refine zA1f @hg0 q8d e2 ?_
          refine⟨k+1,by omega,trivial,?_,by omega,hg0,by rw[z6X,hin,h0];rfl⟩
          exact zLf (w64s (show k<9000000000000000000 by omega))
        | false=>
          rw[h0]at e2
          refine zA1f @hg0 q8d e2 ?_
          have:q2m p x b=false:=by rw[hbk,q5S hc h0];rfl
          rw[hvr,q5S (by assumption) this]
      · simp at hc
        obtain rfl:k=y.ins.list.length:=by omega
        rw[hin,Y0g]at hbk
        have e3:=x6Q hP hX H b hb
        simp only[LProg.cells]at e3
        dsimp only[q0a]
        cases h0:z3p p x b y with
        | true=>
          rw[h0]at e3 hbk
          refine zA1f @hg0 q6r e3 ?_
          refine⟨b+1,by omega,trivial,?_,by omega,hg0,by rw[z6X,hall,hbk];rfl⟩
          exact zLf (w64s (show b<9000000000000000000 by omega))
        | false=>
          rw[h0]at e3 hbk
          refine zA1f @hg0 q6r e3 ?_
          rw[hvr,q5S (by assumption) hbk]
    · simp at hc
      obtain rfl:b=x.blocks.list.length:=by omega
      dsimp only[q0a]
      refine zA0 ?_
      rw[hvr,hall]
  · rw[Y2F hlen,Y1d]at hvr
    have hd:decide (((q1d x.blocks.list x.blocks.list.length).length:Int)=x.blocks.list.length)=false:=Y2F (by omega)
    refine zEf (zc @hg0 (zc @hf (zc @hfl (zc @hfv (zc @hbv (zc @hrl (zc @hd (zc @q6Y @q7a)))))))) (tl 96 [.isl (x.blocks.list.map LBlock.cells)] ((slL (q1d x.blocks.list x.blocks.list.length)).av cI) (e1) t0) ?_
    refine zA0 ?_
    rw[hvr]
theorem FnAt.of{p:LProg}(hs:SmallP p)(h:q2I p=0){f:Nat}{x:LFunc}(hf:p.funcs.list[f]? =some x):FnAt p f x:=by
 obtain⟨h1,h2,_,_⟩:=q3k h
 exact⟨hs,hf,h2 x (Y0N hf),.of h1,fun g hg=>by obtain⟨a1,a2,_⟩:=q1X (h2 g hg);exact⟨a1,a2⟩⟩
theorem x2F(hP:POk Tryz.prog F gl K)(hX:∀f a,K.ext f a=none)(p:LProg)(hs:SmallP p):PureC Tryz.prog F q5i [.agg p.cells] (.int .i64 (q2d p)):=by
  have e1:=x3W hP hX p hs
  by_cases h6:q2I p=0
  · obtain⟨hc3,hmf,hn1,hn8⟩:=q3k h6
    have hfv:=q0j (e:=LFunc.cells) (show 0<p.funcs.list.length by omega)
    obtain⟨vr,hvr⟩:∃vr,vr=q2d p:=⟨_,rfl⟩
    rw[←hvr]
    rw[q2d,Y0e h6]at hvr
    rw[h6]at e1
    refine zP q8j ?_
    refine zA1 q8f e1 ?_
    refine Y2H (fun i:Nat=>[(1,.ptr 0 0),(4,.int .i64 i)]) (fun i g=>i≤p.funcs.list.length∧g.get 0=some (.cells q0o p.cells)∧g.nx=1∧(p.funcs.list.take i).all (q9Z p)=true) (fun i=>p.funcs.list.length-i) (0) ?_ ?_ ?_
    focus(repeat' first|exact q0h|refine q0e (by simp) ?_)
    ·exact⟨Y0E _,by simp,by simp,by simp⟩
    rintro i g ⟨hi,hg0,hnx,hall⟩
    dsimp only[q0o,LProg.cells]at hg0
    refine zR0f @hg0 ?_
    refine Y2w hP rfl (fun hc=>Y2s ?_) (fun hc=>Y2t ?_)
    · simp at hc
      obtain⟨x,hx⟩:=q0b hc
      have H:=FnAt.of hs h6 hx
      have e2:=x3L hP hX H
      simp only[LProg.cells]at e2
      have hsu:=q1U (p:=q9Z p) hx
      dsimp only[q0a]
      cases h0:q9Z p x with
      | true=>
        rw[h0]at e2
        refine zA1f @hg0 q6s e2 ?_
        refine⟨i+1,by omega,trivial,?_,by omega,hg0,hnx,by rw[hsu,hall,h0];rfl⟩
        exact zLf (w64s (show i<9000000000000000000 by omega))
      | false=>
        rw[h0]at e2
        refine zA1f @hg0 q6s e2 ?_
        have:p.funcs.list.all (q9Z p)=false:=Y3E.2 ⟨x,Y0N hx,by simp[h0]⟩
        rw[hvr,this]
        rfl
    · simp at hc
      obtain rfl:i=p.funcs.list.length:=by omega
      rw[Y3n]at hall
      rw[Y0e hall]at hvr
      obtain⟨x,hx⟩:=q0b (show 0<p.funcs.list.length by omega)
      have H:=FnAt.of hs h6 hx
      obtain⟨sg0,sg1⟩:=H.sig
      obtain⟨sg,hsg⟩:=Y3j sg0
      obtain⟨ty,hty⟩:=q0b (show sg<p.types.list.length by omega)
      have htv:=q0j (e:=LType.cells) (show 0<p.types.list.length by omega)
      have hsl:=Y2G (show sg<p.types.list.length by omega)
      have hxl:=Y2G (show 0<p.funcs.list.length by omega)
      have hk3:ty.kind=3:=by
        have:=(q1X H.ok).2.2.1
        simpa [q9u,hsg,hty]using this
      have hel:ty.elem<p.types.list.length:=by
        have:=H.ty.elem ty (Y0N hty)
        omega
      have hso:z2q p 0=sg:=by simp only[z2q,Int.toNat_zero,hx];exact hsg
      have hpa:q1z p.types.list sg=ty.parts.list:=by simp[q1z,hty]
      have hea:q1V p.types.list sg=ty.elem:=by simp[q1V,hty]
      rw[z8q,hso,hpa,hea]at hvr
      have e3:=q5N hP p ty.elem 1 hel
      dsimp only[q0a]
      refine zHf (zc @hg0 (zc @hfv (zc @hx (zc @hxl (zc @natZ (zc @hsg (zc @hty (zc @htv (zc @hsl @hnx))))))))) t0 (zw [0,1,0,4,12,28,60,127,255,0,1023]) ?_
      refine Y2U (fun m=>m.get 0=some (.cells q0o p.cells)∧m.get 1=some (.cells q6q ty.cells)) ⟨by simp[hnx];exact hg0,by simp[hnx]⟩ fun m hm=> ?_
      obtain⟨hm0,hm1⟩:=hm
      dsimp only[q0o,q6q,LProg.cells,LType.cells]at hm0 hm1 e3
      by_cases h0:0<ty.parts.list.length
      · have hd:=Y2G h0
        refine zA0f (zc @hm0 (zc @hm1 @hd)) ?_
        rw[hvr];simp[h0]
      · have hd:=Y2F h0
        cases hi:isT p.types.list ty.elem 1 with
        | true=>
          rw[hi]at e3 hvr
          refine zA1f (zc @hm0 (zc @hm1 @hd)) q0R e3 ?_
          rw[hvr];simp[h0]
        | false=>
          rw[hi]at e3 hvr
          refine zA1f (zc @hm0 (zc @hm1 @hd)) q0R e3 ?_
          rw[hvr];simp
  · have hv:q2d p=q2I p:=by rw[q2d,Y0c h6]
    have h6':=Y2F h6
    rw[hv]
    refine zP q8j ?_
    repeat' first|refine zR1f @h6' q8f e1 ?_|(refine Y2u ⟨.inr rfl,_,_,rfl,rfl,?_⟩;dsimp only[q0q])
theorem x3S(a b:Int):Lib.compact [a,b]=if a=b then [a]else [a,b]:=by
 have e:List.range 2= [0,1]:=rfl
 by_cases h:a=b
 ·subst h
  simp[Lib.compact,Lib.compactUpTo,e,Lib.keeps]
 ·have h':¬b=a:=fun e=>h e.symm
  simp[Lib.compact,Lib.compactUpTo,e,Lib.keeps,h,h']
theorem x4I{g:Hp}{r c:Nat}{x:Bool}{l:List Int}(h3:g.get r=some (.cells q0x (l.map (.int .i64))))(h2:r<g.nx)(hl:l.length<1000000)(hc:l.length≤c):
  CallsT Tryz.prog F g (fun u g'=>∃ls:Sl Int,ls.list=Lib.compact l∧u=ls.av cI∧g'.nx=g.nx∧∀s,s<r→g'.get s=g.get s) q5x [.sl r 0 l.length c 1 x]:=by
 refine CallsT.frz (x3T (F:=F) (h:=g) (c:=c) (x:=x) compLs h3 (by omega) hc) fun u g' ⟨q1,q2⟩=> ?_
 subst q2
 refine⟨fun s=>s=r,20,(Sl.mk (Lib.compact l)).av cI,?_,.mk (Lib.compact l),rfl,rfl,by rw[wo_nx,nx_put],fun s hs=>by rw[z8m (by omega),get_put,Y0c (by omega)]⟩
 rw[q1]
 show(match ((g.put r (.cells 3 ((Lib.compact l++List.replicate (l.length-(Lib.compact l).length) 0).map (.int .i64)))).only fun s=>s=r).get r with
  | some (.cells _ cs)=>bif Nat.ble (Nat.add 0 (Nat.mul (Lib.compact l).length 1)) cs.length then
    (match mapO (mapO (frzV 19 _)) (chunks 1 (Lib.compact l).length (cs.drop 0))with|some l=>some (AV.isl l)|none=>none)else none
  |_=>none)=_
 rw[z3x (S:=fun s=>s=r) (show r=r from rfl),get_put,Y0e rfl]
 dsimp only
 rw[Y1Q,Y3m,z5z,z6j (k:=18)]
 have:Nat.ble (Nat.add 0 (Nat.mul (Lib.compact l).length 1)) ((Lib.compact l).map (AV.int .i64)++(List.replicate (l.length-(Lib.compact l).length) (0:Int)).map (AV.int .i64)).length=true:=Y1x (by simp)
 rw[this];rfl
theorem x0Z(hP:POk Tryz.prog F gl K)(x:LEnd):PureC Tryz.prog F z2M [.agg x.cells] ((slL (to9 x)).av cI):=by
  refine Y2z (O:=fun u g=>frzV 3 g u=some ((slL (to9 x)).av cI)) (k:=3) (by simp) ?_ (fun u g e=>e)
  refine Y2y hP q0f x4C rfl rfl ?_
  by_cases h1:x.kind=1
  · refine zA0f @h1 ?_
    all_goals simp[to9,h1,slL,frzV,mapO,chunks,q3m,Sl.av]
  by_cases h2:x.kind=2
  · refine zR0f (zc @h1 @h2) ?_
    refine Y3y hP q9o (x4I (l:=[x.to,x.els]) (c:=2) (by simp) (by simp) (by simp) (by simp)) (by simp) rfl rfl rfl rfl (fun u g hO=> ?_)
    obtain⟨ls,hl,rfl,_,_⟩:=hO
    refine Y2X hP (by simp<;>rfl) ?_
    try dsimp only[goK]
    refine zA0 ?_
    have he:Sl.av cI ls=(slL (to9 x)).av cI:=by
      rw[x3S]at hl
      have ht:to9 x=if x.to=x.els then [x.to]else [x.to,x.els]:=by
        unfold to9
        by_cases h3:x.to=x.els<;>simp[h1,h2,h3]
      rw[←hl]at ht
      rw[ht]
      have:ls.list≠ []:=by rw[hl];split<;>simp
      cases ls with
      |nil=>exact absurd rfl this
      | mk l=>cases l with
        |nil=>exact absurd rfl this
        |cons a l=>rfl
    rw[he]
    exact z2f (fun _=>rfl) _
  · refine zA0f (zc @h1 @h2) ?_
    all_goals simp[to9,h1,h2,slL,frzV,mapO,chunks,q3m,Sl.av]
structure GateAt(p:LProg)(f:Nat)(x:LFunc):Prop where
 fn:FnAt p f x
 chk:q2I p=0
 ops:OpsP p
theorem GateAt.asked{p:LProg}{f:Nat}{x:LFunc}(H:GateAt p f x):q7S p f=0:=by
 have:=(Y0m.1 H.fn.at_).1
 unfold q7S
 rw[Y0c (by omega)]
 exact H.chk
theorem q8P(hV:Env F gl K){p:LProg}{f:Nat}{x:LFunc}(H:GateAt p f x)(b:Nat)(hb:b<x.blocks.list.length):
  PureC Tryz.prog F z1a [.agg p.cells,.int .i64 f,.int .i64 b] (.tup [x.blocks.av LBlock.cells,.int .i64 0]):=by
 have hP:=hV.P
 have hf:=H.fn.at_
 have hfl:=Y2G (Y0m.1 hf).1
 have hfv:=q0j (e:=LFunc.cells) (show 0<p.funcs.list.length by have:=(Y0m.1 hf).1;omega)
 have hb1':decide (x.blocks.list.length≤b)=false:=Y2F (by omega)
 have hb0:decide ((b:Int)<0)=false:=Y2F (by omega)
 refine Y2z (O:=fun u _=>u= .tup [x.blocks.av LBlock.cells,.int .i64 0]) (k:=3) (by simp) ?_ (fun u g e=>by subst e;unfold frzV;simp only[mapO,z2f z9s];rfl)
 refine Y2y hP q0f x2B rfl rfl ?_
 have e1:=z7C hV p (f:Int) H.fn.sm H.ops
 rw[H.asked]at e1
 simp only[LProg.cells,hfv]at e1
 repeat' first|refine zR1f (zc @hf (zc @hfl (zc @hfv (zc @hb0 @hb1')))) x2s e1 ?_|(refine Y2u ⟨.inr rfl,_,_,rfl,rfl,?_⟩;dsimp only[q0q])
theorem x7s(hV:Env F gl K){p:LProg}{f:Nat}{x:LFunc}(H:GateAt p f x)(b:Nat)(hb:b<x.blocks.list.length):
    PureC Tryz.prog F z5C [.agg p.cells,.int .i64 f,.int .i64 b] (.tup [(slL (q1p x.blocks.list b x.blocks.list.length)).av cI,.int .i64 0]):=by
  have hP:=hV.P
  obtain⟨hs1,hs2,hs3⟩:=H.fn.small
  have hbv:=q0j (e:=LBlock.cells) (show 0<x.blocks.list.length by omega)
  refine Y2z (O:=fun u g=>frzV 5 g u=some (.tup [(slL (q1p x.blocks.list b x.blocks.list.length)).av cI,.int .i64 0])) (k:=5) (by simp) ?_ (fun u g e=>e)
  refine Y2y hP q0f x2D rfl rfl ?_
  have e1:=q8P hV H b hb
  refine zA1 z1e e1 ?_
  refine Y2H (fun q:Nat×AV=>[(2,.int .i64 b),(6,q.2),(7,.int .i64 0),(21,x.blocks.av LBlock.cells),(22,.int .i64 x.blocks.list.length),(23,.int .i64 q.1)]) (fun q g=>q.1≤x.blocks.list.length∧Own 1 q0x 0 g q.2 ((q1p x.blocks.list b q.1).map cI)) (fun q=>x.blocks.list.length-q.1) ((0,.nilsl)) ?_ ?_ ?_
  focus(repeat' first|exact q0h|refine q0e (by simp) ?_)
  ·exact⟨Y0E _,.nil⟩
  rintro⟨i,v⟩ g ⟨hi,hown⟩
  dsimp only at hi hown⊢
  refine zR0 ?_
  refine Y2w hP rfl (fun hc=>Y2s ?_) (fun hc=>Y2t ?_)
  · simp at hc
    obtain⟨y,hy⟩:=q0b hc
    have hcd:=Y2G hc
    have e2:=x0Z hP y.ed
    have e3:=q4r hP (slL (to9 y.ed)) b (by rw[q0l];have:=z6D y.ed;omega)
    rw[q0l]at e3
    have hct:((to9 y.ed).any fun z=>decide ((b:Int)=z))=in27 (to9 y.ed) b:=by
      unfold in27;congr 1;funext z;simp[eq_comm]
    rw[hct]at e3
    dsimp only[LEnd.cells]at e2
    have hta:toAt x.blocks.list i=to9 y.ed:=by simp[toAt,hy]
    have hsu:=z2H (l:=x.blocks.list) (b:=b) (k:=i)
    rw[hta]at hsu
    have hle:=z3N (l:=x.blocks.list) (b:=b) (k:=i)
    dsimp only[q0a]
    repeat first|refine Y2v ?_|refine Y2x ?_
    refine Y2W hP (by simp[hy,hcd,hbv]<;>rfl) ?_
    dsimp only[goK,q0a,q0c,q0d]
    refine Y2U (fun m=>m.get g.nx=some (.cells q1Q y.cells)∧Wid g m) ⟨by simp,((Y2M g).new _).put (Y0u _) _⟩ fun m hm=> ?_
    obtain⟨hm1,hm2⟩:=hm
    dsimp only[q1Q,LBlock.cells,LEnd.cells]at hm1
    obtain⟨v',h',q1,q2,q3,q4⟩:=(hown.wid hm2).push (t:=q0m) (row:=[.int .i64 (i:Int)]) (q1a (gl:=gl) (K:=K)) q1v rfl rfl (by simp;omega) (Y0E _)
    dsimp only[q0m,q0x]at q1
    cases hin:in27 (to9 y.ed) b with
    | true=>
      rw[hin]at e3 hsu
      refine zA2f (zc @hm1 @q1) z2S e2 q0D e3 ?_
      refine⟨(i+1,v'),by dsimp only;omega,trivial,?_,by dsimp only;omega,by rw[hsu];simpa using q2⟩
      exact zLf (zc @hbv (w64s (show i<9000000000000000000 by omega)))
    | false=>
      rw[hin]at e3 hsu
      refine zA2f @hm1 z2S e2 q0D e3 ?_
      refine⟨(i+1,v),by dsimp only;omega,trivial,?_,by dsimp only;omega,by rw[hsu];simpa using hown.wid hm2⟩
      exact zLf (zc @hbv (w64s (show i<9000000000000000000 by omega)))
  · simp at hc
    obtain rfl:i=x.blocks.list.length:=by omega
    dsimp only[q0a]
    refine zA0 ?_
    have:=hown.slL
    unfold frzV
    simp only[mapO,this]
    rfl
end Go.Ax
