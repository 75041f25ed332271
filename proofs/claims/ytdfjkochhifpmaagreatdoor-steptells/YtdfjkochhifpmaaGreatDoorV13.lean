import Derived.Test.YtdfjkochhifpmaaGreatDoorV12
set_option linter.unusedSimpArgs false
set_option linter.unusedVariables false
set_option maxRecDepth 20000
noncomputable section
namespace Go.Ax
open Go.Proofs
attribute [local irreducible] TW TO CallsT PureC
variable{F:Nat→Option Obj}{gl:Nat→AV}{K:Knob}
def x7B(x:LIns):LIns:={x with args:=.mk x.args.list,frm:=.mk x.frm.list}
def z6o(b:LBlock):LBlock:={ins:=.of (b.ins.list.map x7B),ed:=b.ed}
theorem slt_inss:slT (Ctx.of Tryz.prog gl K) z0y q1e 7=true:=by simp[slT]
theorem z8B:slT (Ctx.of Tryz.prog gl K) q6L q1Q 5=true:=by simp[slT]
theorem slt_funcs:slT (Ctx.of Tryz.prog gl K) q9w q4C 2=true:=by simp[slT]
set_option maxHeartbeats 2000000 in
theorem z7G(hP:POk Tryz.prog F gl K)(l:Sl LBlock)(hlen:l.list.length<1000000)(hb:∀x∈l.list,x.ins.list.length<1000000∧∀y∈x.ins.list,y.args.list.length<1000000∧y.frm.list.length<1000000):PureC Tryz.prog F q3f [l.av LBlock.cells] ((Sl.of (l.list.map z6o)).av LBlock.cells):=by
 refine Y2z (O:=fun u g=>frzV 4 g u=some ((Sl.of (l.list.map z6o)).av LBlock.cells)) (k:=4) (by simp) ?_ (fun u g e=>e)
 refine Y2y hP q0f q9q rfl rfl ?_
 refine zA0 ?_
 refine Y2H (fun p:Nat×AV=>[(0,l.av LBlock.cells),(3,p.2),(4,.int .i64 p.1)]) (fun p g=>p.1≤l.list.length∧OwnD 3 5 q1Q 0 g p.2 (((l.list.take p.1).map z6o).map LBlock.cells)) (fun p=>l.list.length-p.1) ((0,.nilsl)) ?_ ?_ ?_
 focus(repeat' first|exact q0h|refine q0e (by simp) ?_)
 ·exact⟨Y0E _,.nil⟩
 rintro⟨i,v⟩ g ⟨hi,hown⟩
 dsimp only at hi hown⊢
 refine zR0 ?_
 refine Y2w hP rfl (fun hc=>Y2s ?_) (fun hc=>Y2t ?_)
 ·simp at hc
  obtain⟨x,hx⟩:=q0b hc
  have hav:=q0j (e:=LBlock.cells) (show 0<l.list.length by omega)
  obtain⟨hx1,hx2⟩:=hb x (Y0N hx)
  dsimp only[q0a]
  refine Y2v ?_
  refine Y2x ?_
  refine zGf (zc @hx @hav) ?_
  refine Y2U (fun k=>k.get g.nx=some (.cells q1Q (.nilsl::x.ed.cells))∧Wid g k∧k.nx=g.nx+1) ⟨by simp,((Y2M g).new _).put (by simp) _,by simp⟩ fun k hk=> ?_
  obtain⟨hk,hw,hn⟩:=hk
  refine zA0 ?_
  refine Y2H (fun p:Nat×AV=>[(0,l.av LBlock.cells),(3,v),(4,.int .i64 i),(5,.ptr g.nx 0),(6,.int .i64 p.1)]) (fun p m=>p.1≤x.ins.list.length∧m.get g.nx=some (.cells q1Q (p.2::x.ed.cells))∧Wid g m∧g.nx<m.nx∧OwnD 2 7 q1e (g.nx+1) m p.2 (((x.ins.list.take p.1).map x7B).map LIns.cells)) (fun p=>x.ins.list.length-p.1) ((0,.nilsl)) ?_ ?_ ?_
  focus(repeat' first|exact q0h|refine q0e (by simp[hav]) ?_)
  ·exact⟨Y0E _,hk,hw,by omega,.nil⟩
  rintro⟨j,u⟩ m ⟨hj,hm,hwm,hnm,hin⟩
  dsimp only[q1Q,LEnd.cells]at hj hm hin⊢
  refine zR0f (zc @hx @hav) ?_
  refine Y2w hP rfl (fun hc=>Y2s ?_) (fun hc=>Y2t ?_)
  ·simp at hc
   obtain⟨y,hy⟩:=q0b hc
   have hiv:=q0j (e:=LIns.cells) (show 0<x.ins.list.length by omega)
   obtain⟨hy1,hy2⟩:=hx2 y (Y0N hy)
   dsimp only[q0a]
   refine Y2v ?_
   refine Y2x ?_
   refine zGf (zc @hx (zc @hav (zc @hy @hiv))) ?_
   refine Y2U (fun k=>k.get m.nx=some (.cells q1e y.cells)∧Wid m k∧k.nx=m.nx+1) ⟨by simp,((Y2M m).new _).put (by simp) _,by simp⟩ fun k hk=> ?_
   obtain⟨hk,hw2,hn2⟩:=hk
   dsimp only[q1e,LIns.cells]at hk
   obtain⟨v1,k1,a1,a2,a3,a4,p,a5,a6,a7⟩:=z9C (gl:=gl) (K:=K) y.args (by omega) k
   dsimp only[q0m,q0x]at a1
   have hk1:k1.get m.nx=_:=a2.at hk (by omega)
   have hne:¬k.nx=m.nx:=by omega
   refine zGf (zc @hk (zc @a1 (zc @hk1 (zc @a4 (zc @a3 @hne))))) ?_
   refine Y2U (fun m1=>m1.get m.nx=some (.cells q1e [.int .u8 y.op,.int .i64 y.type,.int .i64 y.a,.int .i64 y.b,.int .i64 y.n,v1,y.frm.av cI])∧Wid m m1∧RdF (fun r=>r=p) m1 2 v1 (.isl (y.args.list.map cI))∧p<m1.nx) ⟨by simp[get_put],(hw2.trans a2).put (Y0u _) _,a7.mono (fun _ h=>h) fun r hr=>by rw[get_put,Y0c (by omega)],by simpa using a6⟩ fun m1 hm1=> ?_
   obtain⟨hm1,hwm1,a7',a6'⟩:=hm1
   dsimp only[q1e]at hm1
   obtain⟨v2,k2,b1,b2,b3,b4,p2,b5,b6,b7⟩:=z9C (gl:=gl) (K:=K) y.frm (by omega) m1
   dsimp only[q0m,q0x]at b1
   have hk2:k2.get m.nx=_:=b2.at hm1 (by omega)
   have hne2:¬m1.nx=m.nx:=by omega
   refine zGf (zc @hm1 (zc @b1 (zc @hk2 (zc @b4 (zc @b3 @hne2))))) ?_
   refine Y2U (fun m2=>m2.get m.nx=some (.cells q1e [.int .u8 y.op,.int .i64 y.type,.int .i64 y.a,.int .i64 y.b,.int .i64 y.n,v1,v2])∧Wid m m2∧RdF (fun r=>r=p) m2 2 v1 (.isl (y.args.list.map cI))∧RdF (fun r=>r=p2) m2 2 v2 (.isl (y.frm.list.map cI))∧p<m2.nx∧p2<m2.nx) ⟨by simp[get_put],(hwm1.trans b2).put (Y0u _) _,a7'.mono (fun _ h=>h) fun r hr=>by rw[get_put,Y0c (by omega)];exact b2.get r (by omega),b7.mono (fun _ h=>h) fun r hr=>by rw[get_put,Y0c (by omega)],by have:=b2.nx;simp;omega,by simpa using b6⟩ fun m2 hm2=> ?_
   obtain⟨hm2,hwm2,c1,c2,c3,c4⟩:=hm2
   obtain⟨v',h',q1,q2,q3,q4⟩:=hin.push (t:=z0y) (g:=m2) (row:=[.int .u8 y.op,.int .i64 y.type,.int .i64 y.a,.int .i64 y.b,.int .i64 y.n,v1,v2]) (frow:=(x7B y).cells) (slt_inss (gl:=gl) (K:=K)) hwm2 rfl (by simp[a3,b3]) (by simp;omega) (by omega) (S':=fun r=>r=p∨r=p2) (by rintro r (rfl|rfl)<;>omega) (.cons q6w (.cons q6w (.cons q6w (.cons q6w (.cons q6w (.cons (c1.mono (fun _ h=>.inl h) .refl) (.cons (c2.mono (fun _ h=>.inr h) .refl) .nil)))))))
   have hm2b:m2.get g.nx=_:=hwm2.at hm hnm
   have hb':h'.get g.nx=_:=(q3.get g.nx (by omega)).trans hm2b
   dsimp only[z0y,q1e]at q1 hm2
   have hne3:¬m2.nx=g.nx:=by have:=hwm2.nx;omega
   obtain⟨d1,d2⟩:=q2.cell
   refine zA0f (zc @hm2 (zc @q1 (zc @hm2b (zc @hb' (zc @hne3 (zc @d1 @d2)))))) ?_
   refine⟨(j+1,v'),by dsimp only;omega,trivial,?_,by dsimp only;omega,?_,?_,?_,?_⟩
   ·exact zLf (zc @hav (w64s (show j<9000000000000000000 by omega)))
   ·simp[get_put]
   ·refine Wid.put ⟨by have:=hwm2.nx;have:=hwm.nx;omega,fun r hr=> ?_⟩ (Y0u _) _
    rw[q3.get r (by omega),hwm2.get r (by have:=hwm.nx;omega),hwm.get r hr]
   ·have:=hwm2.nx;simp;omega
   ·dsimp only;rw[q7I hy,Y3m];exact q2.put (by omega) _
  ·simp at hc
   dsimp only[q0a]
   rw[Y2Q hc]at hin
   obtain⟨S,hS,hr⟩:=hin.rd
   obtain⟨d1,d2⟩:=hin.cell
   obtain⟨v',h',q1,q2,q3,q4⟩:=hown.push (t:=q6L) (g:=m) (row:=u::x.ed.cells) (frow:=(z6o x).cells) (z8B (gl:=gl) (K:=K)) hwm rfl (by simp[d1]) (by simp;omega) (Y0E _) (S':=S) (fun r h=>by have:=hS r h;omega) (.cons (by rw[z3H]at hr;exact hr) (.cons q6w (.cons q6w (.cons q6w (.cons q6w .nil)))))
   dsimp only[q6L,q1Q,LEnd.cells]at q1
   refine zA0f (zc @hm @q1) ?_
   refine⟨(i+1,v'),by dsimp only;omega,trivial,?_,by dsimp only;omega,?_⟩
   ·exact zLf (zc @hav (w64s (show i<9000000000000000000 by omega)))
   ·dsimp only;rw[q7I hx,Y3m];exact q2
 ·simp at hc
  dsimp only[q0a]
  rw[Y2Q hc]at hown
  obtain⟨S,_,hr⟩:=hown.rd
  refine zA0 ?_
  rw[←z3H];exact hr.now
def twinF(x:LFunc):LFunc:={sig:=x.sig,blocks:=.of (x.blocks.list.map z6o)}
def twinP(p:LProg):LProg:={types:=.of (p.types.list.map z6n),funcs:=.of (p.funcs.list.map twinF)}
theorem z2f{α:Type}{e:α→List AV}(he:∀x,q2g (e x)=true)(x:Sl α){k:Nat}{h:Hp}:frzV (k+1) h (x.av e)=some (x.av e):=by
  have:=q3T he x
  cases x with
  |nil=>rfl
  | mk l=>
    have h1:q6y (l.map e)=true:=this
    unfold frzV
    simp only[Sl.av,h1,Y0V]
set_option maxHeartbeats 2000000 in
theorem x7l(hP:POk Tryz.prog F gl K)(hX:∀f a,K.ext f a=none)(p:LProg)(hs:SmallP p):PureC Tryz.prog F q6a [.agg p.cells] (.agg (twinP p).cells):=by
 refine Y2z (O:=fun u g=>frzV 6 g u=some (.agg (twinP p).cells)) (k:=6) (by simp) ?_ (fun u g e=>e)
 refine Y2y hP q0f z4t rfl rfl ?_
 have e1:=x7m hP p.types (by have:=hs.nt;omega) (fun x hx=>by have:=hs.parts x hx;omega)
 have hnf:=hs.nf
 refine zA1 z4k e1 ?_
 refine Y2H (fun q:Nat×AV=>[(1,.ptr 0 0),(2,.ptr 1 0),(3,.ptr 2 0),(4,.int .i64 q.1)]) (fun q g=>q.1≤p.funcs.list.length∧3≤g.nx∧g.get 0=some (.cells q0o p.cells)∧(∃a b,g.get 1=some (.cells q0o [a,b]))∧g.get 2=some (.cells q0o [(Sl.of (p.types.list.map z6n)).av LType.cells,q.2])∧OwnD 4 2 q4C 3 g q.2 (((p.funcs.list.take q.1).map twinF).map LFunc.cells)) (fun q=>p.funcs.list.length-q.1) ((0,.nilsl)) ?_ ?_ ?_
 focus(repeat' first|exact q0h|refine q0e (by simp) ?_)
 ·exact⟨Y0E _,by simp,by simp,⟨.nilsl,.nilsl,by simp[get_put]⟩,by simp[get_put],.nil⟩
 rintro⟨i,v⟩ g ⟨hi,hnx,hg0,⟨za,zb,hg1⟩,hg2,hown⟩
 dsimp only[q0o,LProg.cells]at hi hg0 hg1 hg2 hown⊢
 refine zR0f @hg0 ?_
 refine Y2w hP rfl (fun hc=>Y2s ?_) (fun hc=>Y2t ?_)
 ·simp at hc
  obtain⟨x,hx⟩:=q0b hc
  have hav:=q0j (e:=LFunc.cells) (show 0<p.funcs.list.length by omega)
  have hsf:=(hs.funcs x (Y0N hx)).blk
  have e2:=z7G hP x.blocks hsf.1 hsf.2
  dsimp only[q0a]
  refine zR0 ?_
  have hpush:=hown.push (t:=q9w) (C:=Ctx.of Tryz.prog gl (K.tell [(q3f,[x.blocks.av LBlock.cells],(Sl.of (x.blocks.list.map z6o)).av LBlock.cells)])) (g:=g) (row:=[.int .i64 x.sig,(Sl.of (x.blocks.list.map z6o)).av LBlock.cells]) (frow:=(twinF x).cells) (slt_funcs (gl:=gl) (K:=K.tell _)) (.refl g) rfl (by simp) (by simp;omega) hnx (S':=fun _=>False) nofun (.cons q6w (.cons (fun _ _=>z2f z9s _) .nil))
  obtain⟨v',h',q1,q2,q3,q4⟩:=hpush
  obtain⟨h2,q5,q6⟩:=x1z q1
  have hg2':h2.get 2=_:=(z1y q6 2).trans ((q3.get 2 (by omega)).trans hg2)
  have hg0':h2.get 0=_:=(z1y q6 0).trans ((q3.get 0 (by omega)).trans hg0)
  have hg1':h2.get 1=_:=(z1y q6 1).trans ((q3.get 1 (by omega)).trans hg1)
  have hn2:=x8f q6
  obtain⟨d1,d2⟩:=q2.cell
  dsimp only[q9w,q4C]at q5
  have hout:OwnD 4 2 q4C 3 (h2.put 2 (.cells q0o [(Sl.of (p.types.list.map z6n)).av LType.cells,v'])).z v' (((p.funcs.list.take (i+1)).map twinF).map LFunc.cells):=by
   rw[q7I hx,Y3m]
   exact(q2.agr (g:=h2) (by omega) fun r _ _=>z1y q6 r).put (by omega) _
  rcases hown.cases with rfl|⟨r,n,hr1,hr2,rfl⟩
  ·refine zHf (zc @hg0 (zc @hg2 (zc @hx (zc @hav (zc @q5 (zc @hg2' (zc @d1 (zc @d2 (zc (show¬g.nx=0 by omega) (zc @q5z @q5B)))))))))) (tl 21 [x.blocks.av LBlock.cells] ((Sl.of (x.blocks.list.map z6o)).av LBlock.cells) (e2) t0) (zw [0,1,0,4,0,28,60,124,0,256,0,1792,3840,7936,16128,32764,65532,131071,262143,524287]) ?_
   refine zA0 ?_
   refine⟨(i+1,v'),by dsimp only;omega,trivial,?_,by dsimp only;omega,?_,?_,⟨za,zb,?_⟩,?_,hout⟩
   ·exact zLf (w64s (show i<9000000000000000000 by omega))
   ·show 3≤h2.nx
    omega
   ·rw[q4G,get_put,Y0c (by omega)];exact hg0'
   ·rw[q4G,get_put,Y0c (by omega)];exact hg1'
   ·rw[q4G,get_put,Y0e rfl]
  ·refine zHf (zc @hg0 (zc @hg2 (zc @hx (zc @hav (zc @q5 (zc @hg2' (zc @d1 (zc @d2 (zc (show¬g.nx=0 by omega) (zc (show¬r=0 by omega) (zc (show¬r=2 by omega) (zc (show¬0=r by omega) (zc (show¬2=r by omega) (zc @q5z @q5B)))))))))))))) (tl 21 [x.blocks.av LBlock.cells] ((Sl.of (x.blocks.list.map z6o)).av LBlock.cells) (e2) t0) (zw [0,1,0,4,0,28,60,124,0,256,0,1792,3840,7936,16128,32764,65532,131071,262143,524287]) ?_
   refine zA0 ?_
   refine⟨(i+1,v'),by dsimp only;omega,trivial,?_,by dsimp only;omega,?_,?_,⟨za,zb,?_⟩,?_,hout⟩
   ·exact zLf (w64s (show i<9000000000000000000 by omega))
   ·show 3≤h2.nx
    omega
   ·rw[q4G,get_put,Y0c (by omega)];exact hg0'
   ·rw[q4G,get_put,Y0c (by omega)];exact hg1'
   ·rw[q4G,get_put,Y0e rfl]
 ·simp at hc
  dsimp only[q0a]
  rw[Y2Q hc]at hown
  obtain⟨S,hS,hr⟩:=hown.rd
  rw[z3H]at hr
  obtain⟨d1,d2⟩:=hown.cell
  refine zA0f (zc @hg2 (zc @hg1 (zc @d1 @d2))) ?_
  have:=hr (g.put 1 (.cells q0o [(Sl.of (p.types.list.map z6n)).av LType.cells,v])) fun r h=>by have:=hS r h;rw[get_put,Y0c (by omega)]
  refine Y2u ⟨.inr rfl,_,[.agg [(Sl.of (p.types.list.map z6n)).av LType.cells,v]],rfl,by simp[resK,get_put],?_⟩
  dsimp only[q0q]
  rw[frzV]
  simp only[mapO,z2f z6I,this]
  rfl
end Go.Ax
noncomputable section
namespace Go.Ax
variable{C:Ctx}{h g:Hp}{S S':Nat→Prop}{es i o:Nat}{rows:List (List AV)}{row:List AV}
def z2g(es:Nat)(rows:List (List AV)):Prop:=∀c∈rows,c.length=es
theorem q9j(hr:z2g es rows)(hi:rows[i]? =some row):rows.flatten=(rows.take i).flatten++(row++(rows.drop (i+1)).flatten)∧(rows.take i).flatten.length=i*es∧row.length=es:=by
 obtain⟨h1,h2⟩:=Y0m.1 hi
 refine⟨?_,?_,hr row (Y0N hi)⟩
 ·conv=>lhs;rw[←List.take_append_drop i rows]
  rw[Y1C,Y3u h1,Y2P,h2]
 ·rw[q5K fun x hx=>hr x (Y1z hx),Y1R,Nat.min_eq_left (by omega)]
theorem flat_sub(hr:z2g es rows)(hi:rows[i]? =some row){k:Nat}(hk:o+k≤es):sub rows.flatten (i*es+o) k=some ((row.drop o).take k):=by
 obtain⟨h1,h2,h3⟩:=q9j hr hi
 unfold sub
 have hl:i*es+o+k≤rows.flatten.length:=by rw[h1,Y0X,Y0X,h2,h3];omega
 have e:Nat.ble (Nat.add (i*es+o) k) rows.flatten.length=true:=Y1x hl
 rw[e,Y0V,h1,List.drop_append,Y3v (by omega),h2,Y1A,List.nil_append,List.drop_append_of_le_length (by omega),Y3w (by simp;omega)]
theorem flat_at(hr:z2g es rows)(hi:rows[i]? =some row)(hk:o<es):rows.flatten[i*es+o]? =row[o]? :=by
 obtain⟨h1,h2,h3⟩:=q9j hr hi
 rw[h1,Y0j (by omega),h2,Y1A,Y0i (by omega)]
theorem flat_put(hr:z2g es rows)(hi:rows[i]? =some row){vs:List AV}(hk:o+vs.length≤es):q1h rows.flatten (i*es+o) vs=(rows.set i (q1h row o vs)).flatten:=by
 obtain⟨h1,h2,h3⟩:=q9j hr hi
 obtain⟨h4,h5⟩:=Y0m.1 hi
 have e1:(rows.set i (q1h row o vs)).flatten=(rows.take i).flatten++(q1h row o vs++(rows.drop (i+1)).flatten):=by
  rw[List.set_eq_take_append_cons_drop,Y0e h4,Y1C,Y2P]
 rw[e1]
 unfold q1h
 show rows.flatten.take (i*es+o)++(vs++rows.flatten.drop (i*es+o+vs.length))=_
 have e2:rows.flatten.take (i*es+o)=(rows.take i).flatten++row.take o:=by
  rw[h1,List.take_append,Y2Q (by omega),h2,Y1A,Y3w (by omega)]
 have e3:rows.flatten.drop (i*es+o+vs.length)=row.drop (o+vs.length)++(rows.drop (i+1)).flatten:=by
  rw[h1,List.drop_append,Y3v (by omega),h2,List.nil_append,show i*es+o+vs.length-i*es=o+vs.length by omega,List.drop_append_of_le_length (by omega)]
 rw[e2,e3]
 simp[Y0O]
def q5G(C:Ctx)(t:TypeId)(row:List AV)(o:Nat):Option AV:=match C.ti t with|some ti=>q2r ti row o|none=>none
def q8q(C:Ctx)(t:TypeId)(es o:Nat):Bool:=match C.ti t with|some ti=>Nat.ble (o+(bif ti.isAgg then ti.size else 1)) es|none=>true
theorem load_arr{t e:TypeId}{r:Nat}(hg:h.get r=some (.cells e rows.flatten))(hr:z2g es rows)(hi:rows[i]? =some row)(hok:q8q C t es o=true):loadAt C t (.ptr r (i*es+o)) h=q5G C t row o:=by
  unfold loadAt q5G
  unfold q8q at hok
  cases hti:C.ti t with
  |none=>rfl
  | some ti=>
    rw[hti]at hok
    dsimp only at hok⊢
    rw[hg]
    dsimp only
    unfold q2r
    have hok:=Y0J hok
    cases ha:ti.isAgg with
    | true=>
      rw[ha,Y0V]at hok
      obtain⟨h1,h2,h3⟩:=q9j hr hi
      dsimp only
      rw[flat_sub hr hi hok]
      have:sub row o ti.size=some ((row.drop o).take ti.size):=by
        unfold sub
        rw[show Nat.ble (Nat.add o ti.size) row.length=true from Y1x (by rw[h3];exact hok)]
        rfl
      rw[this]
    | false=>
      rw[ha,Y1b]at hok
      exact flat_at hr hi (by omega)
theorem z0J{t e:TypeId}{r:Nat}(hg:h.get r=some (.cells e rows.flatten))(hr:z2g es rows)(hi:rows[i]? =some row)(hok:q8q C t es 0=true):loadAt C t (.ptr r (i*es)) h=q5G C t row 0:=load_arr (o:=0) hg hr hi hok
theorem store_arr{t e:TypeId}{r:Nat}{v:AV}{vs:List AV}(hg:h.get r=some (.cells e rows.flatten))(hr:z2g es rows)(hi:rows[i]? =some row)(hv:cellsOf v=some vs)(hc:vs.all q1f=true)(hs:(match C.ti t with|some ti=>decide (vs.length=ti.size)|none=>false)=true)(hk:o+vs.length≤es):
    storeAt C t (.ptr r (i*es+o)) v h=some (h.put r (.cells e (rows.set i (q1h row o vs)).flatten)):=by
  unfold storeAt
  cases hti:C.ti t with
  |none=>rw[hti]at hs;cases hs
  | some ti=>
    rw[hti]at hs
    have hs:=Y3x hs
    rw[hv]
    dsimp only
    rw[hg]
    dsimp only
    obtain⟨h1,h2,h3⟩:=q9j hr hi
    have hl:i*es+o+vs.length≤rows.flatten.length:=by rw[h1,Y0X,Y0X,h2,h3];omega
    rw[show Nat.beq vs.length ti.size=true by rw[hs];exact Y1o _,show Nat.ble (Nat.add (i*es+o) vs.length) rows.flatten.length=true from Y1x hl,hc,flat_put hr hi hk]
    rfl
def sz1(C:Ctx)(t:TypeId):Bool:=match C.ti t with|some ti=>decide (ti.size=1)|none=>false
theorem store1{e:TypeId}{r:Nat}{v:AV}(hg:h.get r=some (.cells e rows.flatten))(hr:z2g es rows)(hi:rows[i]? =some row)(hv:cellsOf v=some [v])(hc:q1f v=true)(ho:o<es)(t:TypeId)(ht:sz1 C t=true):
    storeAt C t (.ptr r (i*es+o)) v h=some (h.put r (.cells e (rows.set i (row.set o v)).flatten)):=by
  have hl:=hr row (Y0N hi)
  rw[store_arr hg hr hi hv (by simp[hc]) (by
    unfold sz1 at ht
    cases hti:C.ti t with
    |none=>rw[hti]at ht;cases ht
    |some ti=>rw[hti]at ht;have:=Y3x ht;simp[this]) (by simp;omega)]
  have:q1h row o [v]=row.set o v:=by
    rw[List.set_eq_take_append_cons_drop,Y0e (by omega)]
    rfl
  rw[this]
theorem z4B{e:TypeId}{r:Nat}{v:AV}(hg:h.get r=some (.cells e rows.flatten))(hr:z2g es rows)(hi:rows[i]? =some row)(hv:cellsOf v=some [v])(hc:q1f v=true)(ho:0<es)(t:TypeId)(ht:sz1 C t=true):
  storeAt C t (.ptr r (i*es)) v h=some (h.put r (.cells e (rows.set i (row.set 0 v)).flatten)):=store1 (o:=0) hg hr hi hv hc ho t ht
theorem set_self'{α:Type}{l:List α}{i:Nat}{x:α}(h:l[i]? =some x):l.set i x=l:=by
 obtain⟨h1,rfl⟩:=Y0m.1 h
 exact List.set_getElem_self h1
abbrev Asr:=Hp→(Nat→Prop)→Prop
def Locl(P:Asr):Prop:=∀h g S S',P h S→(∀r,S r→S' r)→Agr S h g→P g S'
end Go.Ax
set_option maxRecDepth 20000
noncomputable section
namespace Go.Ax
open Go.Proofs
attribute [local irreducible] TW TO CallsT PureC
variable{F:Nat→Option Obj}{gl:Nat→AV}{K:Knob}{S S':Nat→Prop}
def tn(t:List Int)(r:Int):Int:=(t[r.toNat]?).getD 0
end Go.Ax
set_option maxRecDepth 20000
noncomputable section
namespace Go.Ax
open Go.Proofs
section
variable{P:Program}{F:Nat→Option Obj}{gl:Nat→AV}{K:Knob}{n:Nat}{rd:Option Nat}{l:Kn}{h:Hp}{ds:List ADef}{Q:PQ}{all rest:List Oper}
theorem TO.ccall(hP:POk P F gl K){g:FuncId}{x:Operand}{aas:Array Operand}{ts:Array TypeId}{d:Nat}{ty:TypeId}{pos:String}{aft:Array Edge}{gd:Option (Nat×Bool)}{first cap vs args:List AV}{O:AV→Hp→Prop}
  (hf:IsFn P g) (hc:CallsT P F h O g args) (hw:q6M all l ⟨some d,.call {callee:=.value x,args:=aas,argTypes:=ts},ty,pos,aft,gd⟩=some true) (hb:Nat.blt d n=true)
  (hx:evK (Ctx.of P gl K) l x=some (.fn (.func g) first cap)) (ha:evsK (Ctx.of P gl K) l aas.toList=some vs) (he:first++vs++cap=args)
  (k:∀v h',O v h'→TO P F all rest n rd ((d,v)::l) h' ds Q):TO P F all (⟨some d,.call {callee:=.value x,args:=aas,argTypes:=ts},ty,pos,aft,gd⟩::rest) n rd l h ds Q:=by
 subst he
 exact .ucall hP hw hb hx ha hf hc k
abbrev Y3y:=@TO.ccall
end
attribute [local irreducible] TW TO CallsT PureC
variable{F:Nat→Option Obj}{gl:Nat→AV}{K:Knob}{S S':Nat→Prop}
end Go.Ax
noncomputable section
namespace Go.Ax
variable{P:Program}{F:Nat→Option Obj}{n:Nat}{rd:Option Nat}{l l':Kn}{h:Hp}{ds:List ADef}{Q:PQ}
def Tr.filt{α:Type}:Tr α→(Nat→Bool)→Tr α
 | .e,_=>.e
 | .n l v r,p=>.n (l.filt fun i=>p (2*i+1)) (bif p 0 then v else none) (r.filt fun i=>p (2*i+2))
theorem Tr.filt_get{α:Type}:∀(t:Tr α) (p:Nat→Bool) (i:Nat),(t.filt p).get i=bif p i then t.get i else none
  | .e,p,i=>by
    show(Tr.e:Tr α).get i=_
    rw[Y0a]
    cases p i<;>rfl
  | .n l v r,p,i=>by
    unfold Tr.filt
    rw[Y0b,Y0b]
    by_cases h0:i=0
    ·subst h0;rw[Y0e rfl,Y0e rfl]
    · rw[Y0c h0,Y0c h0]
      split
      · rw[Tr.filt_get l]
        congr 1
        congr 1
        omega
      · rw[Tr.filt_get r]
        congr 1
        congr 1
        omega
abbrev Y3z:=@Tr.filt_get
def Hp.wo(h:Hp)(S:Nat→Prop):Hp:={nx:=h.nx,m:=h.m.filt fun r=> !(@decide (S r) (Classical.propDecidable _)),lo:=0}
def Hp.only(h:Hp)(S:Nat→Prop):Hp:={nx:=h.nx,m:=h.m.filt fun r=> @decide (S r) (Classical.propDecidable _),lo:=0}
theorem wo_nx{S:Nat→Prop}:(h.wo S).nx=h.nx:=rfl
theorem z8m{S:Nat→Prop}{r:Nat}(hr:¬S r):(h.wo S).get r=h.get r:=by
 show(h.m.filt _).get r=h.m.get r
 rw[Y3z,@Y2F _ (Classical.propDecidable _) hr];rfl
theorem x7Y{S:Nat→Prop}{r:Nat}(hr:S r):(h.wo S).get r=none:=by
 show(h.m.filt _).get r=none
 rw[Y3z,@Y2G _ (Classical.propDecidable _) hr];rfl
theorem z3x{S:Nat→Prop}{r:Nat}(hr:S r):(h.only S).get r=h.get r:=by
 show(h.m.filt _).get r=h.m.get r
 rw[Y3z,@Y2G _ (Classical.propDecidable _) hr];rfl
theorem only_none{S:Nat→Prop}{r:Nat}(hr:¬S r):(h.only S).get r=none:=by
 show(h.m.filt _).get r=none
 rw[Y3z,@Y2F _ (Classical.propDecidable _) hr];rfl
theorem wo_le(S:Nat→Prop):HpLe h (h.wo S):=by
 refine⟨Y0u _,Y0E _,fun r _ h2=>absurd h2 (Y2K _),fun hw r hr=> ?_⟩
 by_cases hS:S r
 ·exact x7Y hS
 ·rw[z8m hS];exact hw r hr
theorem Step.freeze{m:Loc}{w:World}(S:Nat→Prop)(hR:HRel P F m h w):∃m',Step P F m h (h.wo S) w w m'∧∀k x v y,VRel P F m x v→frzV k (h.only S) x=some y→VRel P F m' y v:=by
  have hsub:∀r o,(h.only S).get r=some o→S r∧h.get r=some o:=fun r o hg=>by
    by_cases hS:S r
    ·rw[z3x hS]at hg;exact⟨hS,hg⟩
    ·rw[only_none hS]at hg;cases hg
  have hwo:∀r o,(h.wo S).get r=some o→¬S r∧h.get r=some o:=fun r o hg=>by
    by_cases hS:S r
    ·rw[x7Y hS]at hg;cases hg
    ·rw[z8m hS]at hg;exact⟨hS,hg⟩
  have hRr:HRel P F m (h.only S) w:=
    ⟨fun r o b z hg hm=>hR.obj r o b z (hsub r o hg).2 hm,fun r s o q b y z hg hl hg' hl' hm hm'=>hR.inj r s o q b y z (hsub r o hg).2 hl (hsub s q hg').2 hl' hm hm',
     fun r o b z hg hl hm=>hR.out r o b z (hsub r o hg).2 hl hm,hR.frz,fun r hr=>by
      cases hg:(h.only S).get r with
      |none=>rfl
      |some o=>have h1:=(hsub r o hg).2;rw[hR.wf r hr]at h1;cases h1⟩
  let K:Nat→Prop:=fun b=>∃r o z,(h.only S).get r=some o∧o.live=true∧m r=some (b,z)
  have dK:∀b,Decidable (K b):=fun b=>Classical.propDecidable _
  let fz2:Nat→Option Obj:=fun b=> @ite _ (K b) (dK b) w.heap[b]? (m.fz b)
  have f1:∀b o,m.fz b=some o→fz2 b=some o:=fun b o hb=>by
    show @ite _ (K b) (dK b) w.heap[b]? (m.fz b)=some o
    split
    ·exact hR.frz b o (.inr hb)
    ·exact hb
  have f2:∀b o,fz2 b=some o→w.heap[b]? =some o:=fun b o hb=>by
    have hb: @ite _ (K b) (dK b) w.heap[b]? (m.fz b)=some o:=hb
    split at hb
    ·exact hb
    ·exact hR.frz b o (.inr hb)
  have f3:∀b o,fz2 b=some o→m.fz b=some o∨K b:=fun b o hb=>by
    have hb: @ite _ (K b) (dK b) w.heap[b]? (m.fz b)=some o:=hb
    split at hb
    ·rename_i hk;exact .inr hk
    ·exact .inl hb
  have hlm:Loc.le m ⟨m,fz2⟩:=⟨fun _ _ h=>h,f1⟩
  refine⟨⟨m,fz2⟩,⟨hlm,fun r c h1 h2=> ?_,⟨fun r o b z hg hm=> ?_,fun r s o q b y z hg hl hg' hl' hm hm'=> ?_,fun r o b z hg hl hm=> ?_,fun b o hb=> ?_,fun r hr=> ?_⟩,Y0r w,Y0u _,fun b hb _=>rfl,Y0u _,fun r o' c hg hl _=>⟨o',(hwo r o' hg).2,hl⟩,fun r b z h1 h2 _=> ?_,fun b o hb=> ?_⟩,fun k x v y hv hy=> ?_⟩
  · have h1:m r=some c:=h1
    rw[h2]at h1;cases h1
  ·exact(hR.obj r o b z (hwo r o hg).2 hm).mono hlm
  ·exact hR.inj r s o q b y z (hwo r o hg).2 hl (hwo s q hg').2 hl' hm hm'
  · obtain⟨hn,h0⟩:=hwo r o hg
    obtain⟨h1,h2⟩:=hR.out r o b z h0 hl hm
    refine⟨h1,?_⟩
    show fz2 b=none
    cases hf:fz2 b with
    |none=>rfl
    | some x=>
      rcases f3 b x hf with h4|⟨s,q,y,hgs,hls,hms⟩
      ·rw[h2]at h4;cases h4
      · obtain⟨g1,g2⟩:=hsub s q hgs
        have h5:=hR.inj r s o _ b z y h0 hl g2 hls hm hms
        subst h5
        exact absurd g1 hn
  · rcases hb with hb|hb
    ·exact hR.frz b o (.inl hb)
    ·exact f2 b o hb
  ·exact(wo_le S).wf (fun r hr=>hR.wf r hr) r hr
  · have h1:m r=some (b,z):=h1
    rw[h2]at h1;cases h1
  · rcases f3 b o hb with h1|⟨s,q,y,hgs,hls,hms⟩
    ·exact .inl h1
    ·exact .inr (.inr ⟨s,_,y,(hsub s q hgs).2,hls,hms⟩)
  · refine VRel.mono (m:=⟨fun _=>none,fz2⟩) (m':=⟨m,fz2⟩) ⟨fun r c h=>(by cases h),fun _ _ h=>h⟩ (z3z (fz:=fz2) hRr f1 (fun r o b z ob hg hl hm hb=> ?_) k x v y hv hy)
    show @ite _ (K b) (dK b) w.heap[b]? (m.fz b)=some ob
    rw[Y0e ⟨r,o,z,hg,hl,hm⟩];exact hb
end Go.Ax
set_option maxRecDepth 20000
noncomputable section
namespace Go.Ax
open Go.Proofs
attribute [local irreducible] TW TO CallsT PureC
variable{F:Nat→Option Obj}{gl:Nat→AV}{K:Knob}{S S':Nat→Prop}
theorem Own.mono{es b b':Nat}{eT:TypeId}{h:Hp}{v:AV}{rows:List (List AV)}(H:Own es eT b h v rows)(hb:b'≤b):Own es eT b' h v rows:=by
 rcases H with h1|⟨h1,r,h2,h3,h4,h5⟩
 ·exact .inl h1
 ·exact .inr ⟨h1,r,by omega,h3,h4,h5⟩
end Go.Ax
set_option maxRecDepth 20000
noncomputable section
namespace Go.Ax
open Go.Proofs
attribute [local irreducible] TW TO CallsT PureC
variable{F:Nat→Option Obj}{gl:Nat→AV}{K:Knob}
theorem z9z{α:Type}{l:List α}{i:Nat}{x:α}(h:l[i]? =some x):l.drop i=x::l.drop (i+1):=by
 obtain⟨h1,rfl⟩:=Y0m.1 h
 exact Y3u h1
def gI(l:List LIns):Bool:=l.any fun x=>decide (20<x.args.list.length)||decide (20<x.frm.list.length)
def gB(most:Int):List LBlock→Int→Bool
 |[],_=>false
 |b::l,n=>decide (most<n+b.ins.list.length)||(gI b.ins.list||gB most l (n+b.ins.list.length))
def gF(most:Int):List LFunc→Int→Bool
 |[],_=>false
 |f::l,n=>decide (20<f.blocks.list.length)||(gB most f.blocks.list n||gF most l (n+q1o f.blocks.list))
def z5n(p:LProg)(most:Int):Bool:=z6z p.types.list||(decide (10<p.funcs.list.length)||gF most p.funcs.list 0)
set_option maxHeartbeats 2000000 in
theorem x4w (hP:POk Tryz.prog F gl K) (p:LProg) (most:Int) (hm:most<1000000) (hb:∀f∈p.funcs.list,∀b∈f.blocks.list,b.ins.list.length<4611686018427387904):PureC Tryz.prog F q5m [.agg p.cells,.int .i64 most] (.bool (z5n p most)):=by
  refine zP z3g ?_
  have e1:=x4x hP p.types
  cases h3:z6z p.types.list with
  | true=>
    rw[h3]at e1
    refine zA1 q8g e1 ?_
    all_goals simp[z5n,h3]
  |false=>
  rw[h3]at e1
  repeat' first|refine zA1 q8g e1 ?_|(refine Y2w hP rfl (fun hc=> ?_) (fun hc=> ?_)<;>simp at hc)
  ·simp[z5n,h3];exact .inl (by omega)
  have hw:z5n p most=gF most p.funcs.list 0:=by simp[z5n,h3];intro h;omega
  rw[hw]
  refine Y2H (fun q:Nat×Int=>[(1,.int .i64 most),(2,.ptr 0 0),(4,.bool false),(5,.int .i64 q.2),(6,.int .i64 q.1)]) (fun q g=>q.1≤p.funcs.list.length∧g.get 0=some (.cells q0o p.cells)∧0≤q.2∧(q.2=0∨q.2≤most)∧gF most p.funcs.list 0=gF most (p.funcs.list.drop q.1) q.2) (fun q=>p.funcs.list.length-q.1) ((0,0)) ?_ ?_ ?_
  focus(repeat' first|exact q0h|refine q0e (by simp) ?_)
  ·exact⟨Y0E _,by simp,by simp,.inl rfl,rfl⟩
  rintro⟨i,n⟩ g ⟨hi,hg0,hn0,hn1,hall⟩
  dsimp only[q0o,LProg.cells]at hi hg0 hn0 hn1 hall⊢
  refine zR0f @hg0 ?_
  refine Y2w hP rfl (fun hc=>Y2s ?_) (fun hc=>Y2t ?_)
  · simp at hc
    obtain⟨x,hx⟩:=q0b hc
    have hav:=q0j (e:=LFunc.cells) (show 0<p.funcs.list.length by omega)
    have hbx:=hb x (Y0N hx)
    rw[z9z hx,gF]at hall
    dsimp only[q0a]
    repeat' first|refine zA0f (zc @hg0 (zc @hx @hav)) ?_|(refine Y2w hP rfl (fun hc=> ?_) (fun hc=> ?_)<;>simp at hc)
    ·rw[hall];simp;exact .inl (by omega)
    rw[Y2F (show¬20<x.blocks.list.length by omega),Bool.false_or]at hall
    refine Y2H (fun q:Nat×Int=>[(1,.int .i64 most),(2,.ptr 0 0),(4,.bool false),(5,.int .i64 q.2),(6,.int .i64 i),(7,.int .i64 q.1)]) (fun q g=>q.1≤x.blocks.list.length∧g.get 0=some (.cells q0o p.cells)∧0≤q.2∧(q.2=0∨q.2≤most)∧gF most p.funcs.list 0=(gB most (x.blocks.list.drop q.1) q.2||gF most (p.funcs.list.drop (i+1)) (q.2+q1o (x.blocks.list.drop q.1)))) (fun q=>x.blocks.list.length-q.1) ((0,n)) ?_ ?_ ?_
    focus(repeat' first|exact q0h|refine q0e (by simp) ?_)
    ·exact⟨Y0E _,hg0,hn0,hn1,hall⟩
    rintro⟨k,m⟩ g ⟨hk,hg0,hm0,hm1,hall⟩
    dsimp only[q0o,LProg.cells]at hk hg0 hm0 hm1 hall⊢
    refine zR0f (zc @hg0 (zc @hx @hav)) ?_
    refine Y2w hP rfl (fun hc=>Y2s ?_) (fun hc=>Y2t ?_)
    · simp at hc
      obtain⟨y,hy⟩:=q0b hc
      have hbv:=q0j (e:=LBlock.cells) (show 0<x.blocks.list.length by omega)
      have hby:=hbx y (Y0N hy)
      rw[z9z hy,gB,q1o]at hall
      have hwn:=w64e (n:=m+y.ins.list.length) (by omega) (by omega)
      dsimp only[q0a]
      repeat' first|refine zA0f (zc @hg0 (zc @hx (zc @hav (zc @hy (zc @hbv @hwn))))) ?_|(refine Y2w hP rfl (fun hc=> ?_) (fun hc=> ?_)<;>simp at hc)
      ·rw[hall];simp;exact .inl (.inl (by omega))
      rw[Y2F (show¬most<m+y.ins.list.length by omega),Bool.false_or,←Int.add_assoc,Bool.or_assoc]at hall
      refine Y2H (fun j:Nat=>[(1,.int .i64 most),(2,.ptr 0 0),(4,.bool false),(5,.int .i64 (m+y.ins.list.length)),(6,.int .i64 i),(7,.int .i64 k),(8,y.ins.av LIns.cells),(9,.int .i64 j)]) (fun j g=>j≤y.ins.list.length∧g.get 0=some (.cells q0o p.cells)∧gF most p.funcs.list 0=(gI (y.ins.list.drop j)||(gB most (x.blocks.list.drop (k+1)) (m+y.ins.list.length)||gF most (p.funcs.list.drop (i+1)) (m+y.ins.list.length+q1o (x.blocks.list.drop (k+1)))))) (fun j=>y.ins.list.length-j) (0) ?_ ?_ ?_
      focus(repeat' first|exact q0h|refine q0e (by simp[hwn]) ?_)
      ·exact⟨Y0E _,hg0,hall⟩
      rintro j g ⟨hj,hg0,hall⟩
      dsimp only[q0o,LProg.cells]at hj hg0 hall⊢
      refine zR0 ?_
      refine Y2w hP rfl (fun hc=>Y2s ?_) (fun hc=>Y2t ?_)
      · simp at hc
        obtain⟨z,hz⟩:=q0b hc
        have hiv:=q0j (e:=LIns.cells) (show 0<y.ins.list.length by omega)
        rw[z9z hz,gI,List.any_cons]at hall
        dsimp only[q0a]
        repeat' first|refine zA0f (zc @hz @hiv) ?_|refine zSf (zc @hz @hiv) (fun hb=> ?_) (fun hb=> ?_)|(refine Y2w hP rfl (fun hc=> ?_) (fun hc=> ?_)<;>simp at hc)
        all_goals first
          |(rw[hall];simp at hb;simp;exact .inl (.inl (.inl (by omega))))
          |(rw[hall];simp;exact .inl (.inl (.inr (by omega))))
          | (refine⟨j+1,by omega,trivial,?_,by omega,hg0,?_⟩
             ·(repeat' first|exact q0h|refine q0e (by simp[hiv,w64s (show j<9000000000000000000 by omega)]) ?_)
             · simp at hb
               rw[Y2F (show¬20<z.args.list.length by omega),Y2F (show¬20<z.frm.list.length by omega)]at hall
               exact hall)
      · simp at hc
        dsimp only[q0a]
        refine zA0 ?_
        rw[Y3v hc]at hall
        refine⟨(k+1,m+y.ins.list.length),by dsimp only;omega,trivial,?_,by dsimp only;omega,hg0,by dsimp only;omega,by dsimp only;omega,hall⟩
        exact zLf (w64s (show k<9000000000000000000 by omega))
    · simp at hc
      dsimp only[q0a]
      refine zA0 ?_
      rw[Y3v hc]at hall
      refine⟨(i+1,m),by dsimp only;omega,trivial,?_,by dsimp only;omega,hg0,hm0,hm1,by simpa [gB,q1o]using hall⟩
      exact zLf (w64s (show i<9000000000000000000 by omega))
  · simp at hc
    dsimp only[q0a]
    refine zA0 ?_
    rw[hall,Y3v hc];rfl
theorem gI_false{l:List LIns}(h:gI l=false):∀x∈l,x.args.list.length≤20∧x.frm.list.length≤20:=fun x hx=>by
 have:=Y2n.1 h x hx
 simp at this
 omega
theorem x5k{most:Int}:∀{l:List LBlock} {n:Int},gB most l n=false→(∀b∈l,∀x∈b.ins.list,x.args.list.length≤20∧x.frm.list.length≤20)∧(n+q1o l≤most∨l= [])
  |[],n,h=>⟨nofun,.inr rfl⟩
  | b ::l,n,h=>by
    rw[gB,Y2l,Y2l]at h
    obtain⟨h1,h2,h3⟩:=h
    obtain⟨h4,h5⟩:=x5k h3
    simp at h1
    refine⟨fun c hc=> ?_,.inl ?_⟩
    · rcases Y2k.1 hc with rfl|hc
      ·exact gI_false h2
      ·exact h4 c hc
    · rw[q1o]
      rcases h5 with h5|rfl
      ·omega
      ·simp[q1o];omega
theorem x5j{most:Int}:∀{l:List LFunc} {n:Int},gF most l n=false→∀f∈l,f.blocks.list.length≤20∧(∀b∈f.blocks.list,∀x∈b.ins.list,x.args.list.length≤20∧x.frm.list.length≤20)∧(n+q1o f.blocks.list≤most∨f.blocks.list= [])
  |[],n,h=>nofun
  | f ::l,n,h=>by
    rw[gF,Y2l,Y2l]at h
    obtain⟨h1,h2,h3⟩:=h
    simp at h1
    intro x hx
    rcases Y2k.1 hx with rfl|hx
    ·exact⟨by omega,x5k h2⟩
    · obtain⟨a,b,c⟩:=x5j h3 x hx
      have:=q1r f.blocks.list
      exact⟨a,b,c.imp (fun c=>by omega) id⟩
theorem x1Y{p:LProg}{most:Int}(hm:most<1000)(h:z5n p most=false):SmallP p∧p.funcs.list.length≤10∧p.types.list.length≤20∧(∀x∈p.types.list,x.parts.list.length≤20)∧∀f∈p.funcs.list,f.blocks.list.length≤20∧(∀b∈f.blocks.list,∀x∈b.ins.list,x.args.list.length≤20∧x.frm.list.length≤20)∧(q1o f.blocks.list≤most∨f.blocks.list= []):=by
 rw[z5n,Y2l,Y2l]at h
 obtain⟨h1,h2,h3⟩:=h
 rw[z6z,Y2l]at h1
 obtain⟨h4,h5⟩:=h1
 simp at h2 h5
 rw[Y2Q (by omega)]at h4
 have h6:∀x∈p.types.list,x.parts.list.length≤20:=fun x hx=>by have:=Y2n.1 h4 x hx;simp at this;omega
 have h7:=fun f hf=>x5j h3 f hf
 simp only[Int.zero_add]at h7
 refine⟨⟨by omega,fun x hx=>by have:=h6 x hx;omega,by omega,fun f hf=> ?_⟩,by omega,by omega,h6,h7⟩
 obtain⟨a,b,c⟩:=h7 f hf
 refine⟨by omega,?_,fun b' hb x hx=>by have:=b b' hb x hx;omega,fun b' hb x hx=>by have:=b b' hb x hx;omega⟩
 rcases c with c|c
 ·omega
 ·rw[c];simp[q1o]
def q1q(p:LProg)(f:LFunc)(block at_:Int):Int:=q0w p f+q1o (f.blocks.list.take block.toNat)+at_
def z6s{α:Type}:Sl α→Nat→Sl α
 | .nil,_=>.nil
 | .mk l,n=>.mk (l.take n)
theorem z2y{α:Type}(s:Sl α)(n:Nat):(z6s s n).list=s.list.take n:=by cases s<;>simp[z6s,Sl.list]
theorem x6a{α:Type}{enc:α→List AV}{C:Ctx}{t eT:TypeId}{es:Nat}(ht:slT C t eT es=true)(he:∀x,(enc x).length=es)(s:Sl α){n:Nat}(hn:n≤s.list.length){h:Hp}:q2t C t (s.av enc) none (some (.int .i64 (n:Int))) none h=some ((z6s s n).av enc):=by
  unfold slT at ht
  split at ht
  case h_2=>cases ht
  rename_i e size isAgg zero zeroOk bytes comparable zv y hti hy
  simp only[Y1X,Y2h]at ht
  obtain⟨rfl,hys,hz,hby⟩:=ht
  unfold q2t
  rw[hti]
  cases s with
  | nil=>
    obtain rfl:n=0:=by simpa [Sl.list]using hn
    simp[Sl.av,z6s,z0j,q6t,hy]
  | mk l=>
    have hn':n≤l.length:=hn
    have hall:((l.map enc).all fun c=>Nat.beq c.length y.size)=true:=Y0G.2 fun c hc=>by obtain⟨x,_,rfl⟩:=Y2S.1 hc;rw[he,hys];exact Y1o _
    have e0:q6t (.int .i64 (n:Int))=some n:=rfl
    simp only[Sl.av,z0j,hy,e0,hall,Y1q,z6s,List.map_take]
    simp[q3m,hn']
theorem z5v(hP:POk Tryz.prog F gl K)(hX:∀f a,K.ext f a=none)(p:LProg)(hs:SmallP p)(f:Nat)(x:LFunc)(hf:p.funcs.list[f]? =some x)(h0:0≤x.sig)(h1:x.sig<p.types.list.length)(b:Nat)(hb:b≤x.blocks.list.length)(at_:Int)(ha:0≤at_∧at_<1000000000):
  PureC Tryz.prog F q0s [.agg p.cells,.int .i64 f,.int .i64 b,.int .i64 at_] (.int .i64 (q1q p x b at_)):=by
 refine zP z1Z ?_
 have hsf:=hs.funcs x (Y0N hf)
 have hav:=q0j (e:=LFunc.cells) (show 0<p.funcs.list.length by have:=(Y0m.1 hf).1;omega)
 have hle:=q8w x.blocks.list b
 have hpos:=q1r (x.blocks.list.take b)
 have hm:=hsf.many
 have hnb:=hsf.nb
 have e1:=z8G hP (z6s x.blocks b) (by rw[z2y,Y1R];omega) (by rw[z2y];omega)
 rw[z2y]at e1
 have e2:=z5u hP p x h0 h1
 have hsp:0≤q0w p x∧q0w p x<900000:=by
  unfold q0w
  cases hx:p.types.list[x.sig.toNat]? with
  |none=>simp
  |some y=>have:=hs.parts y (Y0N hx);simp;omega
 have hsl:=fun T h=>x6a (enc:=LBlock.cells) (C:=Ctx.of Tryz.prog gl (K.tell T)) (h:=h) (z8B (gl:=gl) (K:=K.tell T)) (fun _=>rfl) x.blocks hb
 dsimp only[q6L]at hsl
 refine zG ?_
 refine zEf (zc @hf (zc @hav (zc @hsl (zc (w64e (n:=q0w p x+q1o (x.blocks.list.take b)) (by omega) (by omega)) (zc (w64e (n:=q0w p x+q1o (x.blocks.list.take b)+at_) (by omega) (by omega)) (zc @q7B (zc @q7D (zc @q8H @q8K)))))))) (tl 43 [.agg p.cells,.agg x.cells] (.int .i64 (q0w p x)) (e2) (tl 99 [(z6s x.blocks b).av LBlock.cells] (.int .i64 (q1o (x.blocks.list.take b))) (e1) t0)) ?_
 refine zA0 ?_
 simp[q1q]
theorem x3t{p:LProg}{x:LFunc}(h:q1b p x=true)(hp:∀y∈p.types.list,y.parts.list.length<900000):0≤q2Y p x∧q2Y p x<1000000:=by
 obtain⟨a1,a2,a3,a4,a5,a6⟩:=q1X h
 have h1:=q1r x.blocks.list
 have hsp:0≤q0w p x∧q0w p x<900000:=by
  unfold q0w
  cases hx:p.types.list[x.sig.toNat]? with
  |none=>simp
  |some y=>have:=hp y (Y0N hx);simp;omega
 unfold q2Y
 omega
end Go.Ax
set_option maxRecDepth 20000
noncomputable section
namespace Go.Ax
open Go.Proofs
attribute [local irreducible] TW TO CallsT PureC
variable{F:Nat→Option Obj}{gl:Nat→AV}{K:Knob}{S S':Nat→Prop}
def q2F:List AV:=[.bool false,.bool false,.bool false,.bool false,.bool false,.bool false,.bool false,.bool false,.bool true,.bool false,.bool false,.bool true,.bool false,.bool false,.bool false,.bool false,.bool false,.bool true,.bool false,.bool false,.bool true,.bool false,.bool false,.bool true,.bool true,.bool true,.bool false,.bool false,.bool false,.bool true,.bool true,.bool true,.bool false,.bool false,.bool false,.bool true,.bool true,.bool true,.bool false,.bool false,.bool false,.bool true,.bool true,.bool true,.bool false,.bool false,.bool false,.bool true,.bool true,.bool true,.bool false,.bool false,.bool false,.bool true,.bool true,.bool true,.bool false,.bool false,.bool false,.bool true,.bool true,.bool true,.bool false,.bool false,.bool false,.bool true,.bool false,.bool false,.bool false,.bool false,.bool false,.bool true,.bool false,.bool false,.bool false,.bool false,.bool false,.bool true,.bool true,.bool false,.bool false,.bool false,.bool false,.bool false,.bool true,.bool false,.bool true,.bool false,.bool false,.bool true,.bool true,.bool true,.bool false,.bool false,.bool false,.bool true,.bool true,.bool false,.bool false,.bool false,.bool false,.bool true,.bool true,.bool true,.bool false,.bool false,.bool false,.bool false,.bool false,.bool false,.bool true,.bool true,.bool false,.bool true,.bool true,.bool false,.bool false,.bool true,.bool false,.bool true,.bool false,.bool false,.bool false,.bool false,.bool false,.bool true,.bool true,.bool false,.bool false,.bool false,.bool false,.bool false,.bool false,.bool false,.bool false,.bool true,.bool true,.bool true]
def z8X(op:Int):Bool:=decide (op=1)||(decide (op=3)||(decide (op=14)||decide (op=18)))
def hasS(op:Int):List AV:=[.bool (q2e op),.bool (two6 op),.bool (z8X op),.bool (q0C op),.bool (decide (op=22)),.bool (q2K op)]
theorem table_at:∀n:Nat,n<23→sub q2F (n*6) 6=some (hasS n)
 |0,_=>rfl|1,_=>rfl|2,_=>rfl|3,_=>rfl|4,_=>rfl|5,_=>rfl|6,_=>rfl|7,_=>rfl|8,_=>rfl|9,_=>rfl|10,_=>rfl|11,_=>rfl|12,_=>rfl|13,_=>rfl|14,_=>rfl|15,_=>rfl|16,_=>rfl|17,_=>rfl|18,_=>rfl|19,_=>rfl|20,_=>rfl|21,_=>rfl|22,_=>rfl
 |n+23,h=>absurd h (by omega)
theorem x5i{op:Int}(h:23≤op):hasS op= [.bool false,.bool false,.bool false,.bool false,.bool false,.bool false]:=by
 have h1:two6 op=false:=by unfold two6;simp;omega
 have h2:q2e op=false:=by unfold q2e;rw[h1];simp;omega
 have h3:z8X op=false:=by unfold z8X;simp;omega
 have h4:q0C op=false:=by unfold q0C;simp;omega
 have h5:q2K op=false:=by
  cases ha:q2K op with
  |false=>rfl
  |true=>unfold q2K at ha;simp at ha;omega
 rw[hasS,h1,h2,h3,h4,h5,Y2F (show¬op=22 by omega)]
theorem z7k{k:IntKind}{n:Int}:q3I (.int k n)=false:=rfl
theorem frz_has(op:Int)(h:Hp):frzV 2 h (.agg (hasS op))=some (.agg (hasS op)):=by
 rw[frzV]
 rfl
theorem of_pure(hP:POk Tryz.prog F gl K)(hG:gl q3G= .iptr [q2F] 0 0)(op:Int)(h0:0≤op)(h1:op<256):PureC Tryz.prog F q9m [.int .u8 op] (.agg (hasS op)):=by
 refine Y2z (O:=fun u _=>u= .agg (hasS op)) (k:=2) (by simp) ?_ (fun u m e=>by subst e;exact frz_has _ _)
 refine Y2y hP q0f x7x rfl rfl ?_
 obtain⟨n,rfl⟩:=Y3j h0
 dsimp only[q3G]at hG
 have hw:q9r .i64 (n:Int)=n:=w64e (n:=(n:Int)) (by omega) (by omega)
 have hgl:∀K':Knob,(Ctx.of Tryz.prog gl K').gl 0= .iptr [q2F] 0 0:=fun _=>hG
 by_cases hn:n<23
 ·have ht:=table_at n hn
  have ht1:n*6+6≤q2F.length:=by show n*6+6≤138;omega
  have ht2:(q2F.drop (n*6)).take 6=hasS (n:Int):=by
   unfold sub at ht
   rw[show Nat.ble (Nat.add (n*6) 6) q2F.length=true from Y1x ht1]at ht
   exact Y1Y ht
  have hl:(hasS (n:Int)).length=6:=rfl
  have hc6:(hasS (n:Int)).all q1f=true:=rfl
  repeat' first|refine Y2v ?_|refine Y2I hP rfl ?_|(refine Y2W hP (by simp[hgl,ht1,ht2,hn,(show(n:Int)<23 by omega),z7k,q8n,hw,hl,hc6]<;>rfl) ?_;dsimp only[goK])|simp only[q0a,q0c,q0d,↓reduceIte,Nat.reduceEqDiff,reduceCtorEq]|(refine Y2u ⟨.inr rfl,_,_,rfl,rfl,?_⟩;dsimp only[q0q])
  rfl
 ·have ht:=x5i (op:=(n:Int)) (by omega)
  repeat' first|refine Y2v ?_|refine Y2s ?_|refine Y2J hP rfl ?_|(refine Y2W hP (by simp[hgl,(show¬(n:Int)<23 by omega),z7k,q8n,hw]<;>rfl) ?_;dsimp only[goK])|simp only[q0a,q0c,q0d,↓reduceIte,Nat.reduceEqDiff,reduceCtorEq]|(refine Y2u ⟨.inr rfl,_,_,rfl,rfl,?_⟩;dsimp only[q0q])
  rw[ht];rfl
set_option maxHeartbeats 1000000 in
theorem Uses_pure(hP:POk Tryz.prog F gl K)(hG:gl q3G= .iptr [q2F] 0 0)(x:LIns)(h0:0≤x.op)(h1:x.op<256)(hlen:x.args.list.length<900000):PureC Tryz.prog F z0Y [.agg x.cells] (slOf (q1c x)):=by
  refine Y2z (O:=fun u g=>frzV 3 g u=some (slOf (q1c x))) (k:=3) (by simp) ?_ (fun u g e=>e)
  refine Y2y hP q0f x2y rfl rfl ?_
  have e1:=of_pure hP hG x.op h0 h1
  have hl:(hasS x.op).length=6:=rfl
  have hc6:(hasS x.op).all q1f=true:=rfl
  refine zG ?_
  repeat refine Y2v ?_
  refine Y2W hP (by simp<;>rfl) ?_
  dsimp only[goK]
  refine Y2O hP z1L (e1) (by simp) rfl rfl rfl rfl ?_
  refine Y2X hP (by simp[hl,hc6]<;>rfl) ?_
  dsimp only[goK,q0a]
  refine Y2U (fun g=>g.get 0=some (.cells q1e x.cells)∧g.get 1=some (.cells q6o (hasS x.op))∧2≤g.nx) ⟨by simp[get_put],by simp[get_put],by simp⟩ fun g hgg=> ?_
  obtain⟨hg,hg1,hnx⟩:=hgg
  dsimp only[q1e,q6o,hasS]at hg hg1
  refine Y3r (fun v:AV=>[(1,.ptr 0 0),(2,v),(3,.ptr 1 0)]) (fun v g=>g.get 0=some (.cells q1e x.cells)∧g.get 1=some (.cells q6o (hasS x.op))∧2≤g.nx∧Own 1 q0x 2 g v ((if q2e x.op=true then [x.a]else []).map cI)) ?_ ?_
  · cases hA:q2e x.op with
    | true=>
      rw[hA]at hg1
      obtain⟨v',k',happ,hown',hwb,hnx'⟩:=(Own.nil (es:=1) (eT:=q0x) (b:=2) (h:=g)).push (t:=q0m) (row:=[.int .i64 x.a]) (q1a (gl:=gl) (K:=K)) (fun c hc=>by cases hc) rfl rfl (by simp) hnx
      dsimp only[q0m,q0x]at happ
      refine zA0f (zc @hg (zc @hg1 @happ)) ?_
      refine⟨v',rfl,?_,?_,?_,by omega,hown'⟩
      ·exact zL
      ·rw[hwb.get 0 (by omega)];exact hg
      ·rw[hwb.get 1 (by omega),hg1,hasS,hA]
    | false=>
      rw[hA]at hg1
      refine zA0f (zc @hg @hg1) ?_
      refine⟨.nilsl,rfl,?_,hg,by rw[hg1,hasS,hA],hnx,.nil⟩
      exact zL
  rintro v g ⟨hg,hg1,hnx,hown⟩
  dsimp only[q1e,q0x,q6o,hasS]at hg hg1 hown
  refine Y3r (fun v:AV=>[(1,.ptr 0 0),(2,v),(3,.ptr 1 0)]) (fun v g=>g.get 0=some (.cells q1e x.cells)∧g.get 1=some (.cells q6o (hasS x.op))∧2≤g.nx∧Own 1 q0x 2 g v (((if q2e x.op=true then [x.a]else [])++(if two6 x.op=true then [x.b]else [])).map cI)) ?_ ?_
  · cases h2:two6 x.op with
    | true=>
      rw[h2]at hg1
      obtain⟨v',k',happ,hown',hwb,hnx'⟩:=hown.push (t:=q0m) (row:=[.int .i64 x.b]) (q1a (gl:=gl) (K:=K)) q1v rfl rfl (by split<;>simp) hnx
      dsimp only[q0m,q0x]at happ
      refine zA0f (zc @hg (zc @hg1 @happ)) ?_
      refine⟨v',rfl,?_,?_,?_,by omega,?_⟩
      ·exact zL
      ·rw[hwb.get 0 (by omega)];exact hg
      ·rw[hwb.get 1 (by omega),hg1,hasS,h2]
      ·rw[Y3m];exact hown'
    | false=>
      rw[h2]at hg1
      refine zA0f (zc @hg @hg1) ?_
      refine⟨v,rfl,?_,hg,by rw[hg1,hasS,h2],hnx,by simpa using hown⟩
      exact zL
  rintro v g ⟨hg,hg1,hnx,hown⟩
  dsimp only[q1e,q0x,q6o,hasS]at hg hg1 hown
  refine Y3r (fun v:AV=>[(1,.ptr 0 0),(2,v),(3,.ptr 1 0)]) (fun v g=>Own 1 q0x 2 g v ((q1c x).map cI)) ?_ ?_
  · cases h2:q0C x.op with
    | true=>
      rw[h2]at hg1
      obtain⟨v',k',happ,hown',hwb⟩:=Own.more (x:=x.args.av cI) (rows':=x.args.list.map cI) (q1a (gl:=gl) (K:=K)) q6S hown q1v (x1i _) rfl (z9l _) q1v z0L (by simp only[Y1q,Y0X];(repeat' split)<;>simp<;>omega) hnx
      dsimp only[q0m,q0x]at happ
      refine zA0f (zc @hg (zc @hg1 @happ)) ?_
      refine⟨v',rfl,?_,?_⟩
      ·exact zL
      ·rw[←Y3m]at hown';simpa [q1c,h2]using hown'
    | false=>
      rw[h2]at hg1
      refine zA0f (zc @hg @hg1) ?_
      refine⟨v,rfl,?_,by simpa [q1c,h2]using hown⟩
      exact zL
  rintro v g hown
  refine zA0 ?_
  exact x4Y hown
theorem Ends_pure(hP:POk Tryz.prog F gl K)(x:LEnd):PureC Tryz.prog F q6T [.agg x.cells] (slOf (q3h x)):=by
 refine Y2z (O:=fun u g=>frzV 3 g u=some (slOf (q3h x))) (k:=3) (by simp) ?_ (fun u g e=>e)
 refine Y2y hP q0f x2A rfl rfl ?_
 by_cases hk:x.kind=2∨x.kind=3
 ·rcases hk with hk|hk
  ·refine zA0f @hk ?_
   all_goals (simp only[q3h,hk];rfl)
  ·refine zA0f @hk ?_
   all_goals (simp only[q3h,hk];rfl)
 ·refine zA0f (zc (show¬x.kind=2 by omega) (show¬x.kind=3 by omega)) ?_
  all_goals (simp only[q3h,Y0c hk];rfl)
theorem x1c(hP:POk Tryz.prog F gl K)(f:LFunc)(hs:SmallF f):PureC Tryz.prog F z0X [.agg f.cells] (.int .i64 (q1o f.blocks.list)):=by
 refine zP x2x ?_
 have hnb:=hs.nb
 have hm:=hs.many
 refine zA0 ?_
 refine Y2H (fun i:Nat=>[(2,.int .i64 (q1o (f.blocks.list.take i))),(6,f.blocks.av LBlock.cells),(7,.int .i64 f.blocks.list.length),(8,.int .i64 i)]) (fun i _=>i≤f.blocks.list.length) (fun i=>f.blocks.list.length-i) (0) ?_ ?_ ?_
 focus(repeat' first|exact q0h|refine q0e (by simp[q1o]) ?_)
 ·exact Y0E _
 rintro i g hi
 refine zR0 ?_
 refine Y2w hP rfl (fun hc=>Y2s ?_) (fun hc=>Y2t ?_)
 ·simp at hc
  obtain⟨x,hx⟩:=q0b hc
  have hav:=q0j (e:=LBlock.cells) (show 0<f.blocks.list.length by omega)
  have hs:=q6A hx
  have h1:=q8w f.blocks.list (i+1)
  have h2:=q1r (f.blocks.list.take i)
  dsimp only[q0a]
  refine zA0f (zc @hx @hav) ?_
  refine⟨i+1,by omega,trivial,?_,by omega⟩
  exact zLf (zc @hav (zc (w64s (show i<9000000000000000000 by omega)) (zc @hs (w64e (n:=q1o (f.blocks.list.take i)+x.ins.list.length) (by omega) (by omega)))))
 ·simp at hc
  dsimp only[q0a]
  refine zA0 ?_
  rw[Y2Q hc]
def x0w:List AV:=[.bool false,.bool false,.bool false,.bool false,.bool false,.bool false]
theorem eq_has(hE:K.eqT q6o=true)(a b c d e f:Bool):q0B (Ctx.of Tryz.prog gl K) .eql q6o (.agg [.bool a,.bool b,.bool c,.bool d,.bool e,.bool f]) (.agg x0w)=some (.bool (!(a||(b||(c||(d||(e||f))))))):=by
 have h1:(Ctx.of Tryz.prog gl K).eqT q6o=true:=hE
 show(bif q6p (Ctx.of Tryz.prog gl K) q6o _ (.agg x0w)then(match eqA (Ctx.of Tryz.prog gl K) 100 q6o _ (.agg x0w)with|some b=>some (AV.bool b)|none=>none)else none)=_
 have h2:q6p (Ctx.of Tryz.prog gl K) q6o (.agg [.bool a,.bool b,.bool c,.bool d,.bool e,.bool f]) (.agg x0w)=true:=h1
 have h3:eqA (Ctx.of Tryz.prog gl K) 100 q6o (.agg [.bool a,.bool b,.bool c,.bool d,.bool e,.bool f]) (.agg x0w)=some (!(a||(b||(c||(d||(e||f)))))):=by
  dsimp only[q6o]at h1⊢
  cases a<;>cases b<;>cases c<;>cases d<;>cases e<;>cases f<;>simp[eqA,z0x,eqFields,h1,x0w]
 rw[h2,h3];rfl
def insF(a b n g f s:Bool)(num:Bool)(x:LIns)(z:LSizes):Bool:=
  (a||(b||(n||(g||(f||s)))))&&((!a||q2h x.a z.regs)&&((!b||q2h x.b z.regs)&&(q2f z.regs x.args.list&&(num&&
  ((a||decide (x.a=0))&&((b||decide (x.b=0))&&((n||decide (x.n=0))&&((g||decide (x.args.list.length=0))&&((f||decide (x.frm.list.length=0))&&
  ((if s then q2h x.type z.types else decide (x.type=0))&&(if f then q2f z.blocks x.frm.list&&(decide (x.frm.list.length=x.args.list.length)&&(decide (1≤x.frm.list.length)&&decide (x.frm.list.length≤16)))else decide (x.args.list.length≤4))))))))))))
end Go.Ax
