import Derived.Test.YtdfjkochhifpmaaGreatDoorV16
set_option linter.unusedSimpArgs false
set_option linter.unusedVariables false
noncomputable section
namespace Go.Ax
def to9(x:LEnd):List Int:=if x.kind=1∨x.kind=2∧x.to=x.els then [x.to]else if x.kind=2 then [x.to,x.els]else []
def toAt(l:List LBlock)(i:Nat):List Int:=match l[i]? with|some b=>to9 b.ed|none=>[]
def toN(l:List LBlock)(i:Nat):List Nat:=(toAt l i).map Int.toNat
def q1p(l:List LBlock)(b:Int)(k:Nat):List Int:=((List.range k).filter fun i=>in27 (toAt l i) b).map fun i:Nat=>(i:Int)
theorem z2H{l:List LBlock}{b:Int}{k:Nat}:q1p l b (k+1)=q1p l b k++(if in27 (toAt l k) b=true then [(k:Int)]else []):=by
 unfold q1p
 rw[Y3C,List.filter_append,Y3m]
 congr 1
 by_cases h:in27 (toAt l k) b=true<;>simp[h]
theorem z3N{l:List LBlock}{b:Int}{k:Nat}:(q1p l b k).length≤k:=by
 unfold q1p
 rw[Y1q]
 exact Y0C (Y3G ..) (by simp)
def z0l(l:List LBlock)(but:Int):List Bool:=come (toN l) but l.length (z0k l.length but)
def x4N(l:List LBlock)(but:Int)(b:Int):Bool:=(z0l l but).getD b.toNat false
def q1d(l:List LBlock)(k:Nat):List Int:=((List.range k).filter fun i=>(z0l l (-1)).getD i false).map fun i:Nat=>(i:Int)
theorem z9K{l:List LBlock}{k:Nat}:q1d l (k+1)=q1d l k++(if(z0l l (-1)).getD k false=true then [(k:Int)]else []):=by
 unfold q1d
 rw[Y3C,List.filter_append,Y3m]
 congr 1
 by_cases h:(z0l l (-1)).getD k false=true
 ·rw[Y0e h];simp only[List.filter,h];rfl
 ·rw[Y0c h];simp only[List.filter,Y3D.2 h];rfl
def q8M(l:List LBlock)(a b:Int):Bool:=decide (a=b)||(x4N l (-1) a&& !x4N l a b)
def q4O:List LBlock→Nat→Int→Option (Nat×Nat)
 |[],_,_=>none
 |b::l,i,n=>if 0≤n∧n<b.ins.list.length then some (i,n.toNat)else q4O l (i+1) (n-b.ins.list.length)
def q2Z(p:LProg)(x:LFunc)(r:Int):Int×Int:=match q4O x.blocks.list 0 (r-q0w p x)with|some (b,i)=>((b:Int),(i:Int))|none=>(-1,r)
def z0w(x:LIns):Int:=if q2K x.op=true then x.type else-1
def z2s(l:List LBlock)(b i:Nat):LIns:=match l[b]? with|some y=>y.ins.list.getD i ⟨0,0,0,0,0,.nil,.nil⟩|none=>⟨0,0,0,0,0,.nil,.nil⟩
def q1z(t:List LType)(k:Int):List Int:=match t[k.toNat]? with|some x=>x.parts.list|none=>[]
def q1V(t:List LType)(k:Int):Int:=match t[k.toNat]? with|some x=>x.elem|none=>0
def q0K(p:LProg)(x:LFunc)(r:Int):Int:=match q4O x.blocks.list 0 (r-q0w p x)with|some (b,i)=>z0w (z2s x.blocks.list b i)|none=>(q1z p.types.list x.sig).getD r.toNat (-1)
def q3g(p:LProg)(x:LFunc)(r:Int)(block at_:Int):Bool:=if(q2Z p x r).1<0 then true else if(q2Z p x r).1=block then decide ((q2Z p x r).2<at_)else q8M x.blocks.list (q2Z p x r).1 block
def isT(t:List LType)(k:Int)(kd:Int):Bool:=decide (0≤k)&&decide (q7s t k=kd)
def to12(t:List LType)(k:Int):Int:=if isT t k 2=true then q1V t k else-1
def z3s(t:List LType)(k to:Int):Bool:=decide (0≤to)&&decide (to12 t k=to)
def q2J(t:List LType)(k:Int):Bool:=decide (0≤k)&&q6P t k
def q3p(t:List LType)(sig:Int)(l:List Int)(k:Int):Bool:=isT t sig 3&&(q6N (q1z t sig) l&&decide (q1V t sig=k))
def q5F(x:LType)(n:Int):Int:=if x.kind=4∧0≤n∧n<x.parts.list.length then x.parts.list.getD n.toNat 0 else if x.kind=5∧0≤n∧n<x.many then x.elem else-1
def z3r(t:List LType)(k n:Int):Int:=match t[k.toNat]? with|some x=>q5F x n|none=> -1
def z5G(t:List LType)(x:LIns)(l:List Int):Bool:=
 if x.op=14 then isT t (to12 t (l.getD 0 0)) 4&&z3s t x.type (z3r t (to12 t (l.getD 0 0)) x.n)
 else if x.op=15 then isT t (to12 t (l.getD 0 0)) 5&&(isT t (l.getD 1 0) 1&&z3s t x.type (q1V t (to12 t (l.getD 0 0))))
 else if x.op=16 then q2J t (to12 t (l.getD 0 0))&&decide (x.type=to12 t (l.getD 0 0))
 else q2J t (to12 t (l.getD 0 0))&&decide (l.getD 1 0=to12 t (l.getD 0 0))
def z2q(p:LProg)(n:Int):Int:=match p.funcs.list[n.toNat]? with|some x=>x.sig|none=>0
def q0r(p:LProg)(x:LIns)(l:List Int):Bool:=
 if x.op=1∨x.op=20 then isT p.types.list x.type 1
 else if x.op=2 then isT p.types.list x.type 2||isT p.types.list x.type 3
 else if x.op=3 then decide (x.type=z2q p x.n)
 else if 4≤x.op∧x.op≤9 then isT p.types.list (l.getD 0 0) 1&&(isT p.types.list (l.getD 1 0) 1&&isT p.types.list x.type 1)
 else if x.op=10 then isT p.types.list (l.getD 0 0) 2&&(decide (l.getD 0 0=l.getD 1 0)&&isT p.types.list x.type 1)
 else if x.op=11∨x.op=12 then isT p.types.list x.type 2
 else if x.op=13 then isT p.types.list (l.getD 0 0) 2
 else if x.op=21 then isT p.types.list (l.getD 0 0) 1
 else if 14≤x.op∧x.op≤17 then z5G p.types.list x l
 else if x.op=18 then q3p p.types.list (z2q p x.n) l x.type
 else if x.op=19 then q3p p.types.list (l.getD 0 0) l.tail x.type
 else l.all (fun t=>decide (t=x.type))&&q2J p.types.list x.type
def q3H(p:LProg)(x:LFunc)(l:List Int):Bool:=l.all fun r=>decide (0≤q0K p x r)
def q1O(p:LProg)(x:LFunc)(l:List Int)(block at_:Int):Bool:=l.all fun r=>q3g p x r block at_
def q8r(l:List LBlock)(b:Int):Int:=match l[b.toNat]? with|some y=>y.ins.list.length|none=>0
def x2I(p:LProg)(x:LFunc)(block at_:Nat):Bool:=
 let i:=z2s x.blocks.list block at_
 q6N i.frm.list (q1p x.blocks.list block x.blocks.list.length)&&((decide (at_=0)||decide ((z2s x.blocks.list block (at_-1)).op=22))&&
  (List.range i.frm.list.length).all fun k=>q3g p x (i.args.list.getD k 0) (i.frm.list.getD k 0) (q8r x.blocks.list (i.frm.list.getD k 0)))
def q5b(p:LProg)(x:LFunc)(block at_:Nat):Bool:=
 let i:=z2s x.blocks.list block at_
 q3H p x (q1c i)&&(q0r p i ((q1c i).map (q0K p x))&&if i.op=22 then x2I p x block at_ else q1O p x (q1c i) block at_)
def z3p(p:LProg)(x:LFunc)(block:Nat)(b:LBlock):Bool:=
 q3H p x (q3h b.ed)&&(q1O p x (q3h b.ed) block b.ins.list.length&&(!in27 (to9 b.ed) 0&&
  (if b.ed.kind=2 then isT p.types.list (q0K p x b.ed.a) 1 else if b.ed.kind=3 then decide (q0K p x b.ed.a=q1V p.types.list x.sig)else true)))
def q2m(p:LProg)(x:LFunc)(block:Nat):Bool:=match x.blocks.list[block]? with
 |some b=>((List.range b.ins.list.length).all fun i=>q5b p x block i)&&z3p p x block b
 |none=>true
def q9Z(p:LProg)(x:LFunc):Bool:=decide ((q1d x.blocks.list x.blocks.list.length).length=x.blocks.list.length)&&(List.range x.blocks.list.length).all fun b=>q2m p x b
def z8q(p:LProg):Bool:=decide (¬(0:Int)<(q1z p.types.list (z2q p 0)).length)&&isT p.types.list (q1V p.types.list (z2q p 0)) 1
def q2d(p:LProg):Int:=if q2I p=0 then(if p.funcs.list.all (q9Z p)=true then(if z8q p=true then 0 else 120)else 120)else q2I p
end Go.Ax
set_option maxRecDepth 20000
noncomputable section
namespace Go.Ax
open Go.Proofs
attribute [local irreducible] TW TO CallsT PureC
variable{F:Nat→Option Obj}{gl:Nat→AV}{K:Knob}{S S':Nat→Prop}
theorem z9E(hP:POk Tryz.prog F gl K)(x:LEnd):PureC Tryz.prog F q7m [.agg x.cells] ((slL (to9 x)).av cI):=by
 refine Y2z (O:=fun u g=>frzV 3 g u=some ((slL (to9 x)).av cI)) (k:=3) (by simp) ?_ (fun u g e=>e)
 refine Y2y hP q0f z6c rfl rfl ?_
 by_cases h1:x.kind=1
 ·refine zA0f @h1 ?_
  all_goals simp[to9,h1,slL,frzV,mapO,chunks,q3m,Sl.av]
 by_cases h2:x.kind=2
 ·by_cases h3:x.to=x.els
  ·refine zA0f (zc @h1 (zc @h2 @h3)) ?_
   all_goals simp[to9,h1,h2,h3,slL,frzV,mapO,chunks,q3m,Sl.av]
  ·refine zA0f (zc @h1 (zc @h2 @h3)) ?_
   all_goals simp[to9,h1,h2,h3,slL,frzV,mapO,chunks,q3m,Sl.av]
 ·refine zA0f (zc @h1 @h2) ?_
  all_goals simp[to9,h1,h2,slL,frzV,mapO,chunks,q3m,Sl.av]
theorem x5z(hP:POk Tryz.prog F gl K)(l:Sl Int)(n:Int)(hlen:l.list.length<1000000):PureC Tryz.prog F q7n [l.av cI,.int .i64 n] (.bool (in27 l.list n)):=by
 refine zP z6d ?_
 refine zA0 ?_
 refine Y2H (fun i:Nat=>[(0,l.av cI),(1,.int .i64 n),(4,.bool false),(5,.int .i64 i)]) (fun i _=>i≤l.list.length∧(l.list.take i).any (fun x=>decide (x=n))=false) (fun i=>l.list.length-i) (0) ?_ ?_ ?_
 focus(repeat' first|exact q0h|refine q0e (by simp) ?_)
 ·simp
 rintro i g ⟨hi,hall⟩
 refine zR0 ?_
 refine Y2w hP rfl (fun hc=>Y2s ?_) (fun hc=>Y2t ?_)
 ·simp at hc
  obtain⟨x,hx⟩:=q0b hc
  have hav:=q0j (e:=cI) (show 0<l.list.length by omega)
  have hs:=z3V (p:=fun x=>decide (x=n)) hx
  dsimp only[q0a]
  repeat' first|refine zA0f (zc @hx @hav) ?_|(refine Y2w hP rfl (fun hc=> ?_) (fun hc=> ?_)<;>simp at hc)
  ·rw[in27,z7u hx (by simp[hc])]
  ·refine⟨i+1,by omega,trivial,?_,by omega,by rw[hs,hall];simp[hc]⟩
   exact zLf (zc @hav (w64s (show i<9000000000000000000 by omega)))
 ·simp at hc
  dsimp only[q0a]
  rw[Y2Q hc]at hall
  refine zA0 ?_
  rw[in27,hall]
theorem z6D(x:LEnd):(to9 x).length≤2:=by unfold to9;(repeat' split)<;>simp
theorem Own.slL{h:Hp}{b:Nat}{v:AV}{xs:List Int}(ho:Own 1 q0x b h v (xs.map cI)):frzV 4 h v=some ((slL xs).av cI):=by
 have hfz:=ho.frz (k:=3) q1v (rows':=xs.map cI) (z6j (k:=2) xs)
 exact hfz.trans (by cases xs<;>rfl)
theorem x4K(hP:POk Tryz.prog F gl K)(l:Sl LBlock)(b:Int)(hlen:l.list.length<1000000):PureC Tryz.prog F q8c [l.av LBlock.cells,.int .i64 b] ((slL (q1p l.list b l.list.length)).av cI):=by
  refine Y2z (O:=fun u g=>frzV 4 g u=some ((slL (q1p l.list b l.list.length)).av cI)) (k:=4) (by simp) ?_ (fun u g e=>e)
  refine Y2y hP q0f z3d rfl rfl ?_
  refine zA0 ?_
  refine Y2H (fun q:Nat×AV=>[(0,l.av LBlock.cells),(1,.int .i64 b),(4,.nilsl),(5,q.2),(6,.int .i64 q.1)]) (fun q g=>q.1≤l.list.length∧Own 1 q0x 0 g q.2 ((q1p l.list b q.1).map cI)) (fun q=>l.list.length-q.1) ((0,.nilsl)) ?_ ?_ ?_
  focus(repeat' first|exact q0h|refine q0e (by simp) ?_)
  ·exact⟨Y0E _,.nil⟩
  rintro⟨i,v⟩ g ⟨hi,hown⟩
  dsimp only at hi hown⊢
  refine zR0 ?_
  refine Y2w hP rfl (fun hc=>Y2s ?_) (fun hc=>Y2t ?_)
  · simp at hc
    obtain⟨x,hx⟩:=q0b hc
    have hav:=q0j (e:=LBlock.cells) (show 0<l.list.length by omega)
    have e1:=z9E hP x.ed
    have e2:=x5z hP (slL (to9 x.ed)) b (by rw[q0l];have:=z6D x.ed;omega)
    rw[q0l]at e2
    have hta:toAt l.list i=to9 x.ed:=by simp[toAt,hx]
    have hsu:=z2H (l:=l.list) (b:=b) (k:=i)
    rw[hta]at hsu
    have hle:=z3N (l:=l.list) (b:=b) (k:=i)
    obtain⟨v',h',q1,q2,q3,q4⟩:=hown.push (t:=q0m) (row:=[.int .i64 (i:Int)]) (q1a (gl:=gl) (K:=K)) q1v rfl rfl (by simp;omega) (Y0E _)
    dsimp only[q0m,q0x]at q1
    dsimp only[q0a]
    cases hb:in27 (to9 x.ed) b with
    | true=>
      rw[hb]at e2 hsu
      refine zA2f (zc @hx (zc @hav @q1)) q7o e1 z0e e2 ?_
      refine⟨(i+1,v'),by dsimp only;omega,trivial,?_,by dsimp only;omega,by rw[hsu];simpa using q2⟩
      exact zLf (zc @hav (w64s (show i<9000000000000000000 by omega)))
    | false=>
      rw[hb]at e2 hsu
      refine zA2f (zc @hx (zc @hav @q1)) q7o e1 z0e e2 ?_
      refine⟨(i+1,v),by dsimp only;omega,trivial,?_,by dsimp only;omega,by rw[hsu];simpa using hown⟩
      exact zLf (zc @hav (w64s (show i<9000000000000000000 by omega)))
  · simp at hc
    obtain rfl:i=l.list.length:=by omega
    dsimp only[q0a]
    refine zA0 ?_
    exact hown.slL
end Go.Ax
noncomputable section
namespace Go.Ax
open Go.Proofs
variable{gl:Nat→AV}{K:Knob}
abbrev z0z:TypeId:=4
abbrev x8z:TypeId:=91
abbrev z6B:TypeId:=232
abbrev q2L:TypeId:=227
abbrev T_fn:TypeId:=174
abbrev q1W:TypeId:=134
abbrev z6C:TypeId:=84
abbrev q5I:TypeId:=225
abbrev q6Q:TypeId:=257
abbrev q0X:TypeId:=176
abbrev q0Y:TypeId:=172
end Go.Ax
set_option maxRecDepth 20000
noncomputable section
namespace Go.Ax
open Go.Proofs
attribute [local irreducible] TW TO CallsT PureC
variable{F:Nat→Option Obj}{gl:Nat→AV}{K:Knob}{S S':Nat→Prop}
def bo(o:List Bool):List (List AV):=o.map fun b=>[.bool b]
theorem z2w(o:List Bool):z2g 1 (bo o):=fun c hc=>by
 obtain⟨b,_,rfl⟩:=Y2S.1 hc;rfl
theorem x2Q{o:List Bool}{i:Nat}{b:Bool}(h:o[i]? =some b):(bo o)[i]? =some [.bool b]:=by simp[bo,h]
theorem bo_set{o:List Bool}{i:Nat}{b c:Bool}:(bo o).set i ([AV.bool b].set 0 (.bool c))=bo (o.set i c):=by simp[bo,List.map_set]
def q9a(n:Nat)(first:List Int)(but:Int)(k:Nat):List Bool:=(first.take k).foldl (fun o t=>o.set t.toNat (!decide (t=but))) (List.replicate n false)
theorem z8A{n:Nat}{first:List Int}{but:Int}{k:Nat}:(q9a n first but k).length=n:=by
 unfold q9a
 have:∀(l:List Int) (o:List Bool),(l.foldl (fun o t=>o.set t.toNat (!decide (t=but))) o).length=o.length:=fun l=>by
  induction l with
  |nil=>exact fun _=>rfl
  |cons a l ih=>intro o;rw[List.foldl_cons,ih];simp
 rw[this];simp
theorem x3k{n:Nat}{first:List Int}{but:Int}{k:Nat}{t:Int}(h:first[k]? =some t):q9a n first but (k+1)=(q9a n first but k).set t.toNat (!decide (t=but)):=by
 unfold q9a
 rw[Y3L,h,List.foldl_append];rfl
def comeG(l:List LBlock)(first:List Int)(but:Int):List Bool:=come (toN l) but l.length (q9a l.length first but first.length)
theorem x6W(l:List LBlock)(but:Int):comeG l [0] but=z0l l but:=by
 have:q9a l.length [0] but 1=z0k l.length but:=by simp[q9a,z0k]
 show come _ _ _ (q9a l.length [0] but 1)=_
 rw[this];rfl
theorem x5G(n:Nat):zeroCells n [.bool false]=(bo (List.replicate n false)).flatten:=by
 rw[z0N];simp[bo]
theorem mk_bools{n:Nat}{h:Hp}(hn:n≤1000000):makeSlice (Ctx.of Tryz.prog gl K) x8z (.int .i64 (n:Int)) (.int .i64 (n:Int)) h=some (.sl h.nx 0 n n 1 true,h.new (.cells z0z (bo (List.replicate n false)).flatten)):=by
 unfold makeSlice
 have e0:q6t (.int .i64 (n:Int))=some n:=rfl
 have h1:Nat.ble n n=true:=Y1x (Y0u _)
 have h2:Nat.ble n 1000000=true:=Y1x hn
 rw[←x5G]
 simp[e0,h1,h2,hn]
theorem iter_len{to:Nat→List Nat}{but:Int}{n:Nat}{o:List Bool}:∀k,(q6n (q9t to but n) k o).length=o.length:=fun k=>by
 induction k with
 |zero=>rfl
 |succ k ih=>exact(z1A to but n _).1.symm.trans ih
def z3q(to:Nat→List Nat)(but:Int)(o:List Bool)(i:Nat):List Bool:=(List.range i).foldl (x0A to but) o
theorem x3s{to:Nat→List Nat}{but:Int}{o:List Bool}{i:Nat}:z3q to but o (i+1)=x0A to but (z3q to but o i) i:=by
 unfold z3q
 rw[Y3C,List.foldl_append];rfl
theorem x6g{to:Nat→List Nat}{but:Int}{o:List Bool}{i:Nat}:(z3q to but o i).length=o.length:=(z1z (z9B to but) _ _).1.symm
def x0u(but:Int)(o:List Bool)(ts:List Nat)(k:Nat):List Bool:=(ts.take k).foldl (z7T but) o
theorem x5W{but:Int}{o:List Bool}{ts:List Nat}{k t:Nat}(h:ts[k]? =some t):x0u but o ts (k+1)=z7T but (x0u but o ts k) t:=by
 unfold x0u
 rw[Y3L,h,List.foldl_append];rfl
theorem x4S{but:Int}{o:List Bool}{ts:List Nat}{k:Nat}:Le o (x0u but o ts k):=z1z (z9A but) _ _
theorem comeT_eq{but:Int}{o:List Bool}{m:Nat}{d:Bool}(hd:o[m]? =some d):o.set m (d|| !decide ((m:Int)=but))=z7T but o m:=by
 unfold z7T
 by_cases h:(m:Int)=but
 ·rw[Y0e h,Y2G h]
  have:(d|| !true)=d:=by simp
  rw[this];exact set_self' hd
 ·rw[Y0c h,Y2F h];simp
set_option maxHeartbeats 4000000 in
theorem Come9_mem(hP:POk Tryz.prog F gl K)(hX:∀f a,K.ext f a=none)(l:Sl LBlock)(fv:AV)(first:List Int)(but:Int)(hlen:l.list.length<1000000)(hfl:first.length<1000000)(hf:∀t∈first,0≤t∧t<l.list.length)(hto:∀b∈l.list,∀t∈to9 b.ed,0≤t∧t<l.list.length)(hq:Hp)(hr:RdI hq fv first):
    CallsT Tryz.prog F hq (fun u g=>Wid hq g∧u= .sl hq.nx 0 l.list.length l.list.length 1 true∧g.get hq.nx=some (.cells z0z (bo (comeG l.list first but)).flatten)∧hq.nx<g.nx) q3W [l.av LBlock.cells,fv,.int .i64 but]:=by
  refine Y2y hP q0f z4q rfl rfl ?_
  have hlf:=fun h=>hr.lenOf (C:=Ctx.of Tryz.prog gl K) (t:=q0m) (q1a (gl:=gl) (K:=K)) h
  have hz:=fun h=>mk_bools (gl:=gl) (K:=K) (n:=l.list.length) (h:=h) (by omega)
  dsimp only[x8z,z0z]at hz
  dsimp only[q0m]at hlf
  refine zA0f @hz ?_
  refine Y2H (fun i:Nat=>[(0,l.av LBlock.cells),(1,fv),(2,.int .i64 but),(7,.sl hq.nx 0 l.list.length l.list.length 1 true),(8,.int .i64 i)]) (fun i g=>i≤first.length∧Wid hq g∧hq.nx<g.nx∧g.get hq.nx=some (.cells z0z (bo (q9a l.list.length first but i)).flatten)) (fun i=>first.length-i) (0) ?_ ?_ ?_
  focus(repeat' first|exact q0h|refine q0e (by simp) ?_)
  ·exact⟨Y0E _,(Y2M hq).new _,by simp,by simp[q9a]⟩
  rintro i g ⟨hi,hw,hn,hg⟩
  refine zR0f @hlf ?_
  refine Y2w hP rfl (fun hc=>Y2s ?_) (fun hc=>Y2t ?_)
  · simp at hc
    obtain⟨t,ht⟩:=q0b hc
    obtain⟨h0,h1⟩:=hf t (Y0N ht)
    obtain⟨m,rfl⟩:=Y3j h0
    have hm:m<l.list.length:=by omega
    have hb0:∃b,(q9a l.list.length first but i)[m]? =some b:=q0b (by rw[z8A];exact hm)
    obtain⟨b,hb⟩:=hb0
    have hSt:=z4B (h:=g.up) (C:=Ctx.of Tryz.prog gl (K.tell [])) (v:=.bool (!decide ((m:Int)=but))) (by rw[q4z];exact hg) (z2w _) (x2Q hb) rfl rfl (by omega)
    rw[bo_set]at hSt
    have hs:=x3k (n:=l.list.length) (but:=but) ht
    rw[show((m:Int).toNat)=m from rfl]at hs
    rw[←hs]at hSt
    simp only[Y2R,z0z]at hSt
    dsimp only[q0a]
    rcases hr with⟨rfl,rfl⟩|rfl|⟨r,o,cap,ex,e,cs,rfl,hrn,hrg,hrl,hra⟩
    ·simp at hc
    · have ht':(first.map fun n=>[AV.int .i64 n])[i]? =some [.int .i64 (m:Int)]:=by rw[Y0R,ht];rfl
      repeat first|refine Y2v ?_|refine Y2x ?_
      refine Y3d hP [] (fun e he=>by cases he) [0,0,0,6,14,0,0,96,224,0,992,2047,4095] (by kernel_rfl) (by kernel_rfl) (by simp[hX,hg,Y2G hm,ht,(show¬g.nx≤hq.nx by omega),hSt, -storeAt,sz1,oneD,fpAt,fpOf,q0z,ldOf,q0V,q0n,FP.clash,FP.hard,FP.soft,overlap,inR,q0E,q1J,Nat.testBit,show¬g.nx+1≤g.nx by omega,show¬g.nx+2≤g.nx by omega,show¬g.nx+2≤g.nx+1 by omega,show¬g.nx+3≤g.nx by omega,show¬g.nx+3≤g.nx+1 by omega,show¬g.nx+3≤g.nx+2 by omega]<;>rfl) ?_
      repeat' (refine q1g (fun hb=> ?_) (fun hb=> ?_)<;>(try simp only[Y3e,Y1k,Y3f]at hb)<;>refine q3i (by simp[hb,hX,hg,Y2G hm,ht,(show¬g.nx≤hq.nx by omega),hSt, -storeAt,sz1,oneD,fpAt,fpOf,q0z,ldOf,q0V,q0n,FP.clash,FP.hard,FP.soft,overlap,inR,q0E,q1J,Nat.testBit,show¬g.nx+1≤g.nx by omega,show¬g.nx+2≤g.nx by omega,show¬g.nx+2≤g.nx+1 by omega,show¬g.nx+3≤g.nx by omega,show¬g.nx+3≤g.nx+1 by omega,show¬g.nx+3≤g.nx+2 by omega]<;>rfl) ?_)
      all_goals dsimp only[okD,q0a]
      refine zA0 ?_
      refine⟨i+1,by omega,trivial,?_,by omega,?_⟩
      ·exact zLf (w64s (show i<9000000000000000000 by omega))
      ·exact⟨(hw.put (Y0u _) _).z,hn,by show(g.put hq.nx _).get hq.nx=_;rw[get_put,Y0e rfl]⟩
    · have hcd:=Y2G hc
      have hra':=hra i hc
      rw[(Y0m.1 ht).2]at hra'
      have hgr:=hw.at hrg hrn
      repeat first|refine Y2v ?_|refine Y2x ?_
      refine Y3d hP [] (fun e he=>by cases he) [0,0,0,6,14,0,0,96,224,0,992,2047,4095] (by kernel_rfl) (by kernel_rfl) (by simp[hX,hg,Y2G hm,hcd,hra',hgr,(show¬g.nx≤r by omega),(show¬g.nx≤hq.nx by omega),hSt, -storeAt,sz1,oneD,fpAt,fpOf,q0z,ldOf,q0V,q0n,FP.clash,FP.hard,FP.soft,overlap,inR,q0E,q1J,Nat.testBit,show¬g.nx+1≤g.nx by omega,show¬g.nx+2≤g.nx by omega,show¬g.nx+2≤g.nx+1 by omega,show¬g.nx+3≤g.nx by omega,show¬g.nx+3≤g.nx+1 by omega,show¬g.nx+3≤g.nx+2 by omega]<;>rfl) ?_
      repeat' (refine q1g (fun hb=> ?_) (fun hb=> ?_)<;>(try simp only[Y3e,Y1k,Y3f]at hb)<;>refine q3i (by simp[hb,hX,hg,Y2G hm,hcd,hra',hgr,(show¬g.nx≤r by omega),(show¬g.nx≤hq.nx by omega),hSt, -storeAt,sz1,oneD,fpAt,fpOf,q0z,ldOf,q0V,q0n,FP.clash,FP.hard,FP.soft,overlap,inR,q0E,q1J,Nat.testBit,show¬g.nx+1≤g.nx by omega,show¬g.nx+2≤g.nx by omega,show¬g.nx+2≤g.nx+1 by omega,show¬g.nx+3≤g.nx by omega,show¬g.nx+3≤g.nx+1 by omega,show¬g.nx+3≤g.nx+2 by omega]<;>rfl) ?_)
      all_goals dsimp only[okD,q0a]
      refine zA0 ?_
      refine⟨i+1,by omega,trivial,?_,by omega,?_⟩
      ·exact zLf (w64s (show i<9000000000000000000 by omega))
      ·exact⟨(hw.put (Y0u _) _).z,hn,by show(g.put hq.nx _).get hq.nx=_;rw[get_put,Y0e rfl]⟩
  · simp at hc
    obtain rfl:i=first.length:=by omega
    dsimp only[q0a]
    refine zA0 ?_
    obtain⟨o,ho⟩:∃o,o=q9a l.list.length first but first.length:=⟨_,rfl⟩
    have hol:o.length=l.list.length:=by rw[ho,z8A]
    have hsp:comeG l.list first but=q6n (q9t (toN l.list) but l.list.length) l.list.length o:=by rw[ho];rfl
    rw[←ho]at hg
    rw[hsp]
    clear hsp ho hi hc hf hr hlf
    have htn:∀i t,t∈toN l.list i→t<l.list.length:=fun i t ht=>by
      unfold toN toAt at ht
      split at ht
      · rename_i b hb
        obtain⟨z,hz,rfl⟩:=Y2S.1 ht
        have:=hto b (Y0N hb) z hz
        omega
      ·simp at ht
    refine Y2H (fun k:Nat=>[(0,l.av LBlock.cells),(2,.int .i64 but),(7,.sl hq.nx 0 l.list.length l.list.length 1 true),(9,.int .i64 k)]) (fun k g=>k≤l.list.length∧Wid hq g∧hq.nx<g.nx∧g.get hq.nx=some (.cells z0z (bo (q6n (q9t (toN l.list) but l.list.length) k o)).flatten)) (fun k=>l.list.length-k) (0) ?_ ?_ ?_
    focus(repeat' first|exact q0h|refine q0e (by simp) ?_)
    ·exact⟨Y0E _,hw,hn,hg⟩
    clear hg hw hn
    rintro k g ⟨hk,hw,hn,hg⟩
    refine zR0 ?_
    refine Y2w hP rfl (fun hc=>Y2s ?_) (fun hc=>Y2t ?_)
    · simp at hc
      obtain⟨o1,ho1⟩:∃o1,o1=q6n (q9t (toN l.list) but l.list.length) k o:=⟨_,rfl⟩
      have hol1:o1.length=l.list.length:=by rw[ho1,iter_len,hol]
      have hsp:q6n (q9t (toN l.list) but l.list.length) (k+1) o=z3q (toN l.list) but o1 l.list.length:=by rw[ho1];rfl
      rw[←ho1]at hg
      dsimp only[q0a]
      refine zA0 ?_
      refine Y2H (fun i:Nat=>[(0,l.av LBlock.cells),(2,.int .i64 but),(7,.sl hq.nx 0 l.list.length l.list.length 1 true),(9,.int .i64 k),(10,.int .i64 i)]) (fun i g=>i≤l.list.length∧Wid hq g∧hq.nx<g.nx∧g.get hq.nx=some (.cells z0z (bo (z3q (toN l.list) but o1 i)).flatten)) (fun i=>l.list.length-i) (0) ?_ ?_ ?_
      focus(repeat' first|exact q0h|refine q0e (by simp) ?_)
      ·exact⟨Y0E _,hw,hn,hg⟩
      clear hg hw hn
      rintro i g ⟨hi,hw,hn,hg⟩
      refine zR0 ?_
      refine Y2w hP rfl (fun hc=>Y2s ?_) (fun hc=>Y2t ?_)
      · simp at hc
        obtain⟨b,hb⟩:=q0b hc
        have hav:=q0j (e:=LBlock.cells) (show 0<l.list.length by omega)
        have e1:=z9E hP b.ed
        have htl:=z6D b.ed
        have htb:toN l.list i=(to9 b.ed).map Int.toNat:=by simp[toN,toAt,hb]
        obtain⟨o2,ho2⟩:∃o2,o2=z3q (toN l.list) but o1 i:=⟨_,rfl⟩
        have hol2:o2.length=l.list.length:=by rw[ho2,x6g,hol1]
        have hsp2:z3q (toN l.list) but o1 (i+1)=if o2[i]? =some true then x0u but o2 (toN l.list i) (toN l.list i).length else o2:=by
          rw[x3s,←ho2]
          unfold x0A x0u
          rw[Y3n]
        rw[←ho2]at hg
        dsimp only[q0a]
        refine zA1f (zc @hb @hav) q7o e1 ?_
        have hnl:(toN l.list i).length=(to9 b.ed).length:=by rw[htb,Y1q]
        have hcl:=Y2G hc
        have hlu:=fun h=>q3j (C:=Ctx.of Tryz.prog gl K) (t:=q0m) (h:=h) (q2c (e:=cI) (slL (to9 b.ed))) (q4B _)
        rw[q0l]at hlu
        dsimp only[q0m]at hlu
        refine Y2H (fun j:Nat=>[(0,l.av LBlock.cells),(2,.int .i64 but),(7,.sl hq.nx 0 l.list.length l.list.length 1 true),(9,.int .i64 k),(10,.int .i64 i),(11,(slL (to9 b.ed)).av cI),(12,.int .i64 j)]) (fun j g=>j≤(to9 b.ed).length∧(j=0∨o2[i]? =some true)∧Wid hq g∧hq.nx<g.nx∧g.get hq.nx=some (.cells z0z (bo (x0u but o2 (toN l.list i) j)).flatten)) (fun j=>(to9 b.ed).length-j) (0) ?_ ?_ ?_
        focus(repeat' first|exact q0h|refine q0e (by simp[hav]) ?_)
        ·exact⟨Y0E _,.inl rfl,hw,hn,hg⟩
        clear hg hw hn
        rintro j g ⟨hj,hor,hw,hn,hg⟩
        obtain⟨oj,hoj⟩:∃oj,oj=x0u but o2 (toN l.list i) j:=⟨_,rfl⟩
        have hojl:oj.length=l.list.length:=by rw[hoj,←hol2];exact(x4S).1.symm
        rw[←hoj]at hg
        obtain⟨c,hcb⟩:=q0b (show i<oj.length by omega)
        have hL:=fun t=>z0J (C:=Ctx.of Tryz.prog gl K) (t:=t) hg (z2w _) (x2Q hcb)
        simp only[Y2R]at hL
        by_cases hjn:j<(to9 b.ed).length
        · have hjd:=Y2G hjn
          cases c with
          | false=>
            have hj0:j=0:=by
              rcases hor with h|h
              ·exact h
              · have:=(x4S (but:=but) (ts:=toN l.list i) (k:=j)).2 i h
                rw[←hoj,hcb]at this;cases this
            have ho2:oj=o2:=by rw[hoj,hj0];rfl
            rw[ho2]at hcb hg
            repeat' first|refine Y2v ?_|refine Y2t ?_|refine Y2J hP rfl ?_|(refine Y2W hP (by simp[hlu,hjd,(show¬g.nx≤hq.nx by omega),hL,q5G,q8q,hcl]<;>rfl) ?_;dsimp only[goK])|simp only[q0a,q0c,q0d,↓reduceIte,Nat.reduceEqDiff,reduceCtorEq]
            refine⟨i+1,by omega,trivial,?_,by omega,hw,hn,by rw[hsp2,Y0c (by rw[hcb];simp)];exact hg⟩
            exact zLf (zc (w64s (show i<9000000000000000000 by omega)) @hav)
          | true=>
            have ho2t:o2[i]? =some true:=by
              rcases hor with h|h
              ·rw[hoj,h]at hcb;exact hcb
              ·exact h
            obtain⟨t,ht⟩:=q0b hjn
            obtain⟨h0,h1⟩:=hto b (Y0N hb) t (Y0N ht)
            obtain⟨m,rfl⟩:=Y3j h0
            have hm:m<l.list.length:=by omega
            have hmd:=Y2G hm
            have htm:(toN l.list i)[j]? =some m:=by rw[htb,Y0R,ht];rfl
            obtain⟨d,hd⟩:=q0b (show m<oj.length by omega)
            have htv:=q0j (e:=cI) (x:=slL (to9 b.ed)) (by rw[q0l];omega)
            rw[q0l]at htv
            have hL2:=fun t=>z0J (h:=g.up) (C:=Ctx.of Tryz.prog gl (K.tell [])) (t:=t) (by rw[q4z];exact hg) (z2w _) (x2Q hd)
            simp only[Y2R]at hL2
            have hSt:=z4B (h:=g.up) (C:=Ctx.of Tryz.prog gl (K.tell [])) (v:=.bool (d|| !decide ((m:Int)=but))) (by rw[q4z];exact hg) (z2w _) (x2Q hd) rfl rfl (by omega)
            rw[bo_set,comeT_eq hd,hoj,←x5W htm]at hSt
            simp only[Y2R,z0z]at hSt
            repeat' first|refine Y2v ?_|refine Y2x ?_|refine Y2s ?_|refine Y2I hP rfl ?_|(refine Y2W hP (by simp[hlu,hjd,(show¬g.nx≤hq.nx by omega),hL,q5G,q8q,hcl]<;>rfl) ?_;dsimp only[goK])
            cases d with
            | true=>
              simp only[Bool.true_or]at hSt
              skip
              refine Y3d hP [] (fun e he=>by cases he) [0,0,0,6,14,0,0,0,192,448,992,2016,4064,8160,8160,32736,65504,8160,262112,524256,1048575,2097151] (by kernel_rfl) (by kernel_rfl) (by simp[hX,hg,(show¬g.nx≤hq.nx by omega),hmd,ht,htv,hL2,q5G,q8q,hSt, -storeAt,sz1,oneD,fpAt,fpOf,q0z,ldOf,q0V,q0n,FP.clash,FP.hard,FP.soft,overlap,inR,q0E,q1J,Nat.testBit,show¬g.nx+1≤g.nx by omega,show¬g.nx+2≤g.nx by omega,show¬g.nx+2≤g.nx+1 by omega,show¬g.nx+3≤g.nx by omega,show¬g.nx+3≤g.nx+1 by omega,show¬g.nx+3≤g.nx+2 by omega]<;>rfl) ?_
              repeat' (refine q1g (fun hb=> ?_) (fun hb=> ?_)<;>(try simp only[Y3e,Y1k,Y3f]at hb)<;>refine q3i (by simp[hb,hX,hg,(show¬g.nx≤hq.nx by omega),hmd,ht,htv,hL2,q5G,q8q,hSt, -storeAt,sz1,oneD,fpAt,fpOf,q0z,ldOf,q0V,q0n,FP.clash,FP.hard,FP.soft,overlap,inR,q0E,q1J,Nat.testBit,show¬g.nx+1≤g.nx by omega,show¬g.nx+2≤g.nx by omega,show¬g.nx+2≤g.nx+1 by omega,show¬g.nx+3≤g.nx by omega,show¬g.nx+3≤g.nx+1 by omega,show¬g.nx+3≤g.nx+2 by omega]<;>rfl) ?_)
              all_goals dsimp only[okD,q0a]
              refine zA0 ?_
              refine⟨j+1,by omega,trivial,?_,by omega,.inr ho2t,?_⟩
              ·exact zLf (zc (w64s (show j<9000000000000000000 by omega)) (zc @hav @htv))
              ·exact⟨(hw.put (Y0u _) _).z,hn,by show(g.put hq.nx _).get hq.nx=_;rw[get_put,Y0e rfl]⟩
            | false=>
              simp only[Bool.false_or]at hSt
              skip
              refine Y3d hP [] (fun e he=>by cases he) [0,0,0,6,14,0,0,0,192,448,992,2016,4064,8160,8160,32736,65504,8160,262112,524256,1048575,2097151] (by kernel_rfl) (by kernel_rfl) (by simp[hX,hg,(show¬g.nx≤hq.nx by omega),hmd,ht,htv,hL2,q5G,q8q,hSt, -storeAt,sz1,oneD,fpAt,fpOf,q0z,ldOf,q0V,q0n,FP.clash,FP.hard,FP.soft,overlap,inR,q0E,q1J,Nat.testBit,show¬g.nx+1≤g.nx by omega,show¬g.nx+2≤g.nx by omega,show¬g.nx+2≤g.nx+1 by omega,show¬g.nx+3≤g.nx by omega,show¬g.nx+3≤g.nx+1 by omega,show¬g.nx+3≤g.nx+2 by omega]<;>rfl) ?_
              repeat' (refine q1g (fun hb=> ?_) (fun hb=> ?_)<;>(try simp only[Y3e,Y1k,Y3f]at hb)<;>refine q3i (by simp[hb,hX,hg,(show¬g.nx≤hq.nx by omega),hmd,ht,htv,hL2,q5G,q8q,hSt, -storeAt,sz1,oneD,fpAt,fpOf,q0z,ldOf,q0V,q0n,FP.clash,FP.hard,FP.soft,overlap,inR,q0E,q1J,Nat.testBit,show¬g.nx+1≤g.nx by omega,show¬g.nx+2≤g.nx by omega,show¬g.nx+2≤g.nx+1 by omega,show¬g.nx+3≤g.nx by omega,show¬g.nx+3≤g.nx+1 by omega,show¬g.nx+3≤g.nx+2 by omega]<;>rfl) ?_)
              all_goals dsimp only[okD,q0a]
              refine zA0 ?_
              refine⟨j+1,by omega,trivial,?_,by omega,.inr ho2t,?_⟩
              ·exact zLf (zc (w64s (show j<9000000000000000000 by omega)) (zc @hav @htv))
              ·exact⟨(hw.put (Y0u _) _).z,hn,by show(g.put hq.nx _).get hq.nx=_;rw[get_put,Y0e rfl]⟩
        · have hjd:=Y2F hjn
          have hje:j=(toN l.list i).length:=by omega
          have hfin:z3q (toN l.list) but o1 (i+1)=oj:=by
            rw[hsp2,hoj,←hje]
            split
            ·rfl
            · rename_i hno
              have:j=0:=by
                rcases hor with h|h
                ·exact h
                ·exact absurd h hno
              rw[this];rfl
          refine zA0f (zc @hlu @hjd) ?_
          refine⟨i+1,by omega,trivial,?_,by omega,hw,hn,by rw[hfin];exact hg⟩
          exact zLf (zc (w64s (show i<9000000000000000000 by omega)) @hav)
      · simp at hc
        obtain rfl:i=l.list.length:=by omega
        dsimp only[q0a]
        refine zA0 ?_
        refine⟨k+1,by omega,trivial,?_,by omega,hw,hn,by rw[hsp];exact hg⟩
        exact zLf (w64s (show k<9000000000000000000 by omega))
    · simp at hc
      obtain rfl:k=l.list.length:=by omega
      dsimp only[q0a]
      refine zA0 ?_
      exact⟨hw,trivial,hg,hn⟩
structure OkT(t:List LType):Prop where
 elem:∀x∈t,0≤x.elem∧x.elem<t.length∨x.kind=1∨x.kind=4
 part:∀x∈t,∀y∈x.parts.list,0≤y∧y<t.length
 parts:∀x∈t,x.parts.list.length≤8
 sig:∀x∈t,x.kind=3→x.parts.list.length≤4
 many:∀x∈t,x.kind=3∨x.kind=4→x.many=0
 len:t.length≤16
theorem x0S{t:List LType}{n:Int}(h:q6P t n=true):0≤n∧n<t.length:=by
 simp only[q6P,Y1X,Y2h]at h;omega
theorem OkT.of{t:List LType}(h:q8s t=0):OkT t:=by
 unfold q8s at h
 split at h
 ·omega
 split at h
 case isFalse=>omega
 rename_i hl hall
 have hm:∀x∈t,∃k,k<t.length∧t[k]? =some x∧q1T t k=true:=fun x hx=>by
  obtain⟨k,hk⟩:=Y3B.1 hx
  have hkl:=(Y0m.1 hk).1
  have:=Y0G.1 hall k (Y2o.2 hkl)
  simp only[q5C,Y1X]at this
  exact⟨k,hkl,hk,this.1⟩
 have key:∀x∈t,(0≤x.elem∧x.elem<t.length∨x.kind=1∨x.kind=4)∧(∀y∈x.parts.list,0≤y∧y<t.length)∧x.parts.list.length≤8∧(x.kind=3→x.parts.list.length≤4)∧(x.kind=3∨x.kind=4→x.many=0):=fun x hx=>by
  obtain⟨k,hk,hk',hmt⟩:=hm x hx
  simp only[q1T,hk']at hmt
  have hnil:x.parts.list.length=0→∀y∈x.parts.list,0≤y∧y<t.length:=fun h y hy=>by
   rw[Y1y h]at hy;cases hy
  split at hmt
  ·simp only[Y1X,Y2h]at hmt
   exact⟨.inr (.inl (by assumption)),hnil hmt.2.2,by omega,fun _=>by omega,fun h=>by omega⟩
  split at hmt
  ·simp only[Y1X,Y2h]at hmt
   exact⟨.inl ⟨hmt.1,hmt.2.1⟩,hnil hmt.2.2.2,by omega,fun _=>by omega,fun h=>by omega⟩
  split at hmt
  ·simp only[z5k,Y1X,Y2h]at hmt
   exact⟨.inl (x0S hmt.2.1),fun y hy=>x0S (Y0G.1 hmt.1 y hy),by omega,fun _=>by omega,fun _=>hmt.2.2.2⟩
  split at hmt
  ·simp only[Y1X,Y2h]at hmt
   refine⟨.inr (.inr (by assumption)),fun y hy=> ?_,by omega,fun _=>by omega,fun _=>hmt.2.1⟩
   have:=Y0G.1 hmt.2.2.2.2 y hy
   simp only[Y1X,Y2h]at this
   omega
  split at hmt
  ·simp only[Y1X,Y2h]at hmt
   exact⟨.inl ⟨hmt.1,by omega⟩,hnil hmt.2.2.2.2,by omega,fun _=>by omega,fun h=>by omega⟩
  ·cases hmt
 exact⟨fun x hx=>(key x hx).1,fun x hx=>(key x hx).2.1,fun x hx=>(key x hx).2.2.1,fun x hx=>(key x hx).2.2.2.1,fun x hx=>(key x hx).2.2.2.2,by omega⟩
theorem q5N(hP:POk Tryz.prog F gl K)(p:LProg)(k kd:Int)(hk:k<p.types.list.length):PureC Tryz.prog F q1N [.agg p.cells,.int .i64 k,.int .u8 kd] (.bool (isT p.types.list k kd)):=by
 refine zP z6a ?_
 by_cases h0:0≤k
 ·obtain⟨n,rfl⟩:=Y3j h0
  have hn:n<p.types.list.length:=by omega
  obtain⟨x,hx⟩:=q0b hn
  have hav:=q0j (e:=LType.cells) (show 0<p.types.list.length by omega)
  refine zA0f (zc (Y2G hn) (zc @hx @hav)) ?_
  all_goals simp_all[isT,q7s]
 ·refine zA0f @h0 ?_
  simp[isT,h0]
theorem x1A(hP:POk Tryz.prog F gl K)(p:LProg)(k:Int)(hk:k<p.types.list.length):PureC Tryz.prog F q7l [.agg p.cells,.int .i64 k] (.int .i64 (to12 p.types.list k)):=by
 have e1:=q5N hP p k 2 hk
 refine zP z6b ?_
 by_cases h0:isT p.types.list k 2=true
 ·rw[h0]at e1
  have h1:0≤k:=by simp only[isT,Y1X,Y2h]at h0;exact h0.1
  obtain⟨n,rfl⟩:=Y3j h1
  have hn:n<p.types.list.length:=by omega
  obtain⟨x,hx⟩:=q0b hn
  have hav:=q0j (e:=LType.cells) (show 0<p.types.list.length by omega)
  simp only[LProg.cells,hav]at e1
  refine zA1f (zc (Y2G hn) (zc @hx @hav)) q0R e1 ?_
  all_goals simp_all[to12,q1V]
 ·rw[Y3D.2 h0]at e1
  refine zA1 q0R e1 ?_
  all_goals simp[to12,h0]
theorem z7g(hP:POk Tryz.prog F gl K)(p:LProg)(k to:Int)(hk:k<p.types.list.length):PureC Tryz.prog F q8B [.agg p.cells,.int .i64 k,.int .i64 to] (.bool (z3s p.types.list k to)):=by
 have e1:=x1A hP p k hk
 refine zP z4o ?_
 by_cases h0:0≤to
 ·refine zA1f @h0 z5R e1 ?_
  all_goals simp[z3s,h0]
 ·refine zA0f @h0 ?_
  all_goals simp[z3s,h0]
theorem z3Q(hP:POk Tryz.prog F gl K)(p:LProg)(k:Int):PureC Tryz.prog F q4K [.agg p.cells,.int .i64 k] (.bool (q2J p.types.list k)):=by
 have e1:=q9F hP p.types k
 refine zP z1S ?_
 by_cases h0:0≤k
 ·refine zA1f @h0 q3s e1 ?_
  all_goals simp[q2J,h0]
 ·refine zA0f @h0 ?_
  all_goals simp[q2J,h0]
theorem x2p(hP:POk Tryz.prog F gl K)(x:LType)(n:Int)(hx:x.parts.list.length<1000000):PureC Tryz.prog F q7y [.agg x.cells,.int .i64 n] (.int .i64 (q5F x n)):=by
 refine zP z2a ?_
 by_cases h0:0≤n
 ·obtain⟨k,rfl⟩:=Y3j h0
  by_cases h1:k<x.parts.list.length
  ·obtain⟨y,hy⟩:=q0b h1
   have hav:=q0j (e:=cI) (show 0<x.parts.list.length by omega)
   repeat' first|refine zA0f (zc (Y2G h1) (zc @hy @hav)) ?_|refine zSf (zc (Y2G h1) (zc @hy @hav)) (fun hb=> ?_) (fun hb=> ?_)|(refine Y2w hP rfl (fun hc=> ?_) (fun hc=> ?_)<;>simp at hc)
   all_goals (simp_all[q5F];try omega)
  ·repeat' first|refine zA0f @h1 ?_|refine zSf @h1 (fun hb=> ?_) (fun hb=> ?_)|(refine Y2w hP rfl (fun hc=> ?_) (fun hc=> ?_)<;>simp at hc)
   all_goals (simp_all[q5F];try omega)
 ·repeat' first|refine zA0f @h0 ?_|refine zSf @h0 (fun hb=> ?_) (fun hb=> ?_)|fail
  all_goals (simp_all[q5F];try omega)
theorem z3U(hP:POk Tryz.prog F gl K)(p:LProg)(hT:OkT p.types.list)(sig:Int)(l:Sl Int)(k:Int)(hk:sig<p.types.list.length)(hl:l.list.length<1000000):PureC Tryz.prog F q4M [.agg p.cells,.int .i64 sig,l.av cI,.int .i64 k] (.bool (q3p p.types.list sig l.list k)):=by
  have e1:=q5N hP p sig 3 hk
  refine zP z1U ?_
  cases h0:isT p.types.list sig 3 with
  | true=>
    rw[h0]at e1
    have h1:0≤sig:=by simp only[isT,Y1X,Y2h]at h0;exact h0.1
    obtain⟨n,rfl⟩:=Y3j h1
    have hn:n<p.types.list.length:=by omega
    obtain⟨x,hx⟩:=q0b hn
    have hav:=q0j (e:=LType.cells) (show 0<p.types.list.length by omega)
    have e2:=q7J hP x.parts l (by have:=hT.parts x (Y0N hx);omega)
    have hpa:q1z p.types.list n=x.parts.list:=by simp[q1z,hx]
    have hel:q1V p.types.list n=x.elem:=by simp[q1V,hx]
    simp only[LProg.cells,hav]at e1
    cases h2:q6N x.parts.list l.list with
    | true=>
      rw[h2]at e2
      refine zA2f (zc (Y2G hn) (zc @hx @hav)) q0R e1 q2z e2 ?_
      all_goals simp[q3p,h0,h2,hpa,hel]
    | false=>
      rw[h2]at e2
      refine zA2f (zc (Y2G hn) (zc @hx @hav)) q0R e1 q2z e2 ?_
      all_goals simp[q3p,h0,h2,hpa,hel]
  | false=>
    rw[h0]at e1
    refine zA1 q0R e1 ?_
    all_goals simp[q3p,h0]
theorem q6C:∀{l:List LBlock} {i:Nat} {n:Int} {b k:Nat},q4O l i n=some (b,k)→i≤b∧∃y,l[b-i]? =some y∧k<y.ins.list.length∧n=q1o (l.take (b-i))+k
  |[],i,n,b,k,h=>by cases h
  | y ::l,i,n,b,k,h=>by
    unfold q4O at h
    split at h
    · rename_i hn
      cases h
      exact⟨Y0u _,y,by simp,by omega,by simp[q1o];omega⟩
    · obtain⟨h1,z,h2,h3,h4⟩:=q6C h
      obtain⟨d,hd⟩:∃d,b-i=d+1:=⟨b-i-1,by omega⟩
      have hd2:b-(i+1)=d:=by omega
      rw[hd2]at h2 h4
      refine⟨by omega,z,by rw[hd];simpa using h2,h3,?_⟩
      rw[hd,Y3M]
      simp only[q1o]
      omega
theorem z6Z:∀{l:List LBlock} {i:Nat} {n:Int},q4O l i n=none→0≤n→q1o l≤n
  |[],i,n,_,h0=>by simpa [q1o]using h0
  | y ::l,i,n,h,h0=>by
    unfold q4O at h
    split at h
    ·cases h
    · have:=z6Z h (by omega)
      simp only[q1o]
      omega
theorem x3g{l:List LBlock}{i:Nat}{b:LBlock}{n:Int}(hb:l[i]? =some b)(hn:¬(0≤n∧n<b.ins.list.length)):q4O (l.drop i) i n=q4O (l.drop (i+1)) (i+1) (n-b.ins.list.length):=by
 obtain⟨h,rfl⟩:=Y0m.1 hb
 rw[Y3u h,q4O,Y0c hn]
theorem x5J{l:List LBlock}{i k:Nat}{b:LBlock}(hb:l[i]? =some b)(hk:k<b.ins.list.length):q4O (l.drop i) i k=some (i,k):=by
 obtain⟨h,rfl⟩:=Y0m.1 hb
 rw[Y3u h,q4O,Y0e ⟨by omega,by omega⟩];rfl
structure FnAt(p:LProg)(f:Nat)(x:LFunc):Prop where
 sm:SmallP p
 at_:p.funcs.list[f]? =some x
 ok:q1b p x=true
 ty:OkT p.types.list
 sigs:∀g∈p.funcs.list,0≤g.sig∧g.sig<p.types.list.length
theorem FnAt.sig{p:LProg}{f:Nat}{x:LFunc}(H:FnAt p f x):0≤x.sig∧x.sig<p.types.list.length:=by
 obtain⟨a1,a2,_⟩:=q1X H.ok
 exact⟨a1,a2⟩
theorem z7v(hP:POk Tryz.prog F gl K)(hX:∀f a,K.ext f a=none){p:LProg}{f:Nat}{x:LFunc}(H:FnAt p f x)(r:Int):
  PureC Tryz.prog F q5l [.agg p.cells,.int .i64 f,.int .i64 r] (.tup [.int .i64 (q2Z p x r).1,.int .i64 (q2Z p x r).2]):=by
 obtain⟨hs,hf,hok,hT,hsgs⟩:=H
 obtain⟨a1,a2,a3,a4,a5,a6⟩:=q1X hok
 have hav:=q0j (e:=LFunc.cells) (show 0<p.funcs.list.length by have:=(Y0m.1 hf).1;omega)
 refine zP2 z3f ?_
 refine zA0 ?_
 refine Y2H (fun i:Nat=>[(1,.int .i64 f),(2,.int .i64 r),(3,.ptr 0 0),(8,.int .i64 i)]) (fun i g=>i≤x.blocks.list.length∧g.get 0=some (.cells q0o p.cells)∧q4O x.blocks.list 0 (r-q0w p x)=q4O (x.blocks.list.drop i) i (r-q0w p x-q1o (x.blocks.list.take i))) (fun i=>x.blocks.list.length-i) (0) ?_ ?_ ?_
 focus(repeat' first|exact q0h|refine q0e (by simp) ?_)
 ·exact⟨Y0E _,by simp,by simp[q1o]⟩
 rintro i g ⟨hi,hg,hw⟩
 dsimp only[q0o,LProg.cells]at hg
 refine zR0f (zc @hg (zc @hf @hav)) ?_
 refine Y2w hP rfl (fun hc=>Y2s ?_) (fun hc=>Y2t ?_)
 ·simp at hc
  obtain⟨b,hb⟩:=q0b hc
  have hbv:=q0j (e:=LBlock.cells) (show 0<x.blocks.list.length by omega)
  have ht:=q6A hb
  have hl1:=q8w x.blocks.list (i+1)
  have hl2:=q1r (x.blocks.list.take i)
  dsimp only[q0a]
  refine zA0 ?_
  refine Y2H (fun k:Nat=>[(1,.int .i64 f),(2,.int .i64 r),(3,.ptr 0 0),(8,.int .i64 i),(9,.int .i64 k)]) (fun k g=>k≤b.ins.list.length∧g.get 0=some (.cells q0o p.cells)∧¬(0≤r-q0w p x-q1o (x.blocks.list.take i)∧r-q0w p x-q1o (x.blocks.list.take i)<k)) (fun k=>b.ins.list.length-k) (0) ?_ ?_ ?_
  focus(repeat' first|exact q0h|refine q0e (by simp) ?_)
  ·exact⟨Y0E _,hg,by omega⟩
  clear hg
  rintro k g ⟨hk,hg,hno⟩
  dsimp only[q0o,LProg.cells]at hg
  refine zR0f (zc @hg (zc @hf (zc @hav (zc @hb @hbv)))) ?_
  refine Y2w hP rfl (fun hc=>Y2s ?_) (fun hc=>Y2t ?_)
  ·simp at hc
   have e1:=z5v hP hX p hs f x hf a1 a2 i (by omega) k (by omega)
   have hnum:q1q p x i k=q0w p x+q1o (x.blocks.list.take i)+k:=by simp[q1q]
   dsimp only[q0a]
   by_cases he:q1q p x i k=r
   ·refine zA1f (zc @hg @he) q7z e1 ?_
    have hn:r-q0w p x-q1o (x.blocks.list.take i)=k:=by omega
    rw[hn,x5J hb hc]at hw
    simp[q2Z,hw]
   ·refine zA1f (zc @hg @he) q7z e1 ?_
    refine⟨k+1,by omega,trivial,?_,by omega,hg,by omega⟩
    exact zLf (w64s (show k<9000000000000000000 by omega))
  ·simp at hc
   obtain rfl:k=b.ins.list.length:=by omega
   dsimp only[q0a]
   refine zA0 ?_
   rw[x3g hb hno]at hw
   refine⟨i+1,by omega,trivial,?_,by omega,hg,?_⟩
   ·exact zLf (w64s (show i<9000000000000000000 by omega))
   ·rw[hw,ht,Int.sub_sub]
 ·simp at hc
  obtain rfl:i=x.blocks.list.length:=by omega
  rw[List.drop_length,q4O]at hw
  dsimp only[q0a]
  refine zA0 ?_
  simp[q2Z,hw]
theorem q7F{l:List LBlock}{b k:Nat}{y:LBlock}{z:LIns}(hb:l[b]? =some y)(hz:y.ins.list[k]? =some z):z2s l b k=z:=by simp[z2s,hb,Y3l,hz]
theorem x4p(hP:POk Tryz.prog F gl K)(hX:∀f a,K.ext f a=none){p:LProg}{f:Nat}{x:LFunc}(H:FnAt p f x)(r:Int)(h0:0≤r)(h1:r<q2Y p x):
    PureC Tryz.prog F q8C [.agg p.cells,.int .i64 f,.int .i64 r] (.int .i64 (q0K p x r)):=by
  have e1:=z7v hP hX H r
  obtain⟨hs,hf,hok,hT,hsgs⟩:=H
  obtain⟨a1,a2,a3,a4,a5,a6⟩:=q1X hok
  have hav:=q0j (e:=LFunc.cells) (show 0<p.funcs.list.length by have:=(Y0m.1 hf).1;omega)
  obtain⟨sg,hsg⟩:=Y3j a1
  obtain⟨ty,hty⟩:=q0b (show sg<p.types.list.length by omega)
  have htv:=q0j (e:=LType.cells) (show 0<p.types.list.length by omega)
  have hsl:=Y2G (show sg<p.types.list.length by omega)
  refine zP z4p ?_
  cases hw:q4O x.blocks.list 0 (r-q0w p x)with
  | none=>
    have hsp:r<q0w p x:=by
      by_cases h:r<q0w p x
      ·exact h
      · have:=z6Z hw (by omega)
        unfold q2Y at h1;omega
    have e2:q2Z p x r=(-1,r):=by simp[q2Z,hw]
    rw[e2]at e1
    obtain⟨n,rfl⟩:=Y3j h0
    have hpl:q0w p x=ty.parts.list.length:=by simp[q0w,hsg,hty]
    obtain⟨q,hq⟩:=q0b (show n<ty.parts.list.length by omega)
    have hnl:=Y2G (show n<ty.parts.list.length by omega)
    have hqv:=q0j (e:=cI) (show 0<ty.parts.list.length by omega)
    refine zR1 q1S e1 ?_
    skip
    refine zEf (zc @hf (zc @hav (zc @hsg (zc @hty (zc @htv (zc @hsl (zc @hq (zc @hqv @hnl)))))))) t0 ?_
    refine zA0 ?_
    simp[q0K,hw,q1z,hsg,hty,Y3l,hq]
  | some v=>
    obtain⟨b,i⟩:=v
    obtain⟨_,y,hy,hi,_⟩:=q6C hw
    rw[Y1H]at hy
    obtain⟨z,hz⟩:=q0b hi
    have e2:q2Z p x r=((b:Int),(i:Int)):=by simp[q2Z,hw]
    rw[e2]at e1
    have hbl:=Y2G (Y0m.1 hy).1
    have hil:=Y2G hi
    have hfl:=Y2G (Y0m.1 hf).1
    have hbv:=q0j (e:=LBlock.cells) (show 0<x.blocks.list.length by have:=(Y0m.1 hy).1;omega)
    have hiv:=q0j (e:=LIns.cells) (show 0<y.ins.list.length by omega)
    have hty:q0K p x r=z0w z:=by simp[q0K,hw,q7F hy hz]
    have e3:=z3W hP z.op
    simp only[LProg.cells,hav]at e1
    cases ha:q2K z.op with
    | true=>
      rw[ha]at e3
      refine zA2f (zc @hf (zc @hfl (zc @hav (zc @hy (zc @hbv (zc @hbl (zc @hz (zc @hiv @hil)))))))) q1S e1 q4m e3 ?_
      rw[hty,z0w,Y0e ha]
    | false=>
      rw[ha]at e3
      refine zA2f (zc @hf (zc @hfl (zc @hav (zc @hy (zc @hbv (zc @hbl (zc @hz (zc @hiv @hil)))))))) q1S e1 q4m e3 ?_
      rw[hty,z0w,Y0c (by rw[ha];simp)]
theorem q9i{l:List LBlock}(h:∀b∈l,∀t∈to9 b.ed,0≤t∧t<l.length){i t:Nat}(ht:t∈toN l i):t<l.length:=by
 unfold toN toAt at ht
 split at ht
 ·rename_i b hb
  obtain⟨z,hz,rfl⟩:=Y2S.1 ht
  have:=h b (Y0N hb) z hz
  omega
 ·simp at ht
theorem q4d{p:LProg}{x:LFunc}(h:q1b p x=true):∀b∈x.blocks.list,∀t∈to9 b.ed,0≤t∧t<x.blocks.list.length:=by
 simp only[q1b,Y1X]at h
 intro b hb t ht
 have h3:=Y0G.1 h.2 b hb
 simp only[q3c,Y1X]at h3
 have h5:=h3.2
 have low:∀{l:List Int} {n:Int},q2R l n=true→∀r∈l,0≤r∧r<n:=fun{l n} h r hr=>by
  have:=Y0G.1 h r hr
  simp at this
  omega
 unfold q4H at h5
 unfold to9 at ht
 by_cases k1:b.ed.kind=1
 ·rw[Y0e k1]at h5
  simp only[Y1X]at h5
  rw[Y0e (.inl k1),Y2d]at ht
  subst ht
  exact low h5.2.2 b.ed.to (by simp)
 ·by_cases k2:b.ed.kind=2
  ·rw[Y0c k1,Y0e k2]at h5
   simp only[Y1X]at h5
   have h1:=low h5.2 b.ed.to (by simp)
   have h2:=low h5.2 b.ed.els (by simp)
   split at ht
   ·rw[Y2d]at ht;subst ht;exact h1
   ·simp only[Y2k,List.not_mem_nil,or_false]at ht
    rcases ht with rfl|rfl
    ·exact h1
    ·exact h2
  ·rw[Y0c (by omega),Y0c k2]at ht
   cases ht
theorem z6W{l:List LBlock}{but:Int}:(z0l l but).length=l.length:=by
 unfold z0l
 rw[z3A];simp[z0k]
theorem zero_in{n:Nat}(h:0<n):∀t∈ [(0:Int)],0≤t∧t<(n:Int):=by
 intro t ht
 have:t=0:=by simpa using ht
 omega
theorem rdI_zero{h:Hp}{q:Nat}(hg:h.get q=some (.cells q0x [.int .i64 0]))(hq:q<h.nx){x:Bool}:RdI h (.sl q 0 1 1 1 x) [0]:=
 .inr (.inr ⟨q,0,1,x,q0x,_,rfl,hq,hg,by simp,fun i hi=>by simp at hi;subst hi;rfl⟩)
theorem x1B(hP:POk Tryz.prog F gl K)(hX:∀f a,K.ext f a=none)(l:Sl LBlock)(hlen:l.list.length<1000000)(hl0:0<l.list.length)(hto:∀b∈l.list,∀t∈to9 b.ed,0≤t∧t<l.list.length)(but:Int)(h0:Hp)(q:Nat)(x:Bool)(hg:h0.get q=some (.cells q0x [.int .i64 0]))(hq:q<h0.nx):
  CallsT Tryz.prog F h0 (fun u g=>∃r,Wid h0 g∧u= .sl r 0 l.list.length l.list.length 1 true∧g.get r=some (.cells z0z (bo (z0l l.list but)).flatten)∧r<g.nx) q3W [l.av LBlock.cells,.sl q 0 1 1 1 x,.int .i64 but]:=
 (Come9_mem hP hX l (.sl q 0 1 1 1 x) [0] but hlen (by simp) (zero_in hl0) hto h0 (rdI_zero hg hq)).mono fun u g ⟨hw,e,hg,hn⟩=>⟨_,hw,e,by rw[←x6W];exact hg,hn⟩
theorem x7q(hP:POk Tryz.prog F gl K)(hX:∀f a,K.ext f a=none)(l:Sl LBlock)(hlen:l.list.length<1000000)(hto:∀b∈l.list,∀t∈to9 b.ed,0≤t∧t<l.list.length)(a b:Nat)(ha:a<l.list.length)(hb:b<l.list.length):
    PureC Tryz.prog F q5j [l.av LBlock.cells,.int .i64 a,.int .i64 b] (.bool (q8M l.list a b)):=by
  have e1:=x1B hP hX l hlen (by omega) hto
  have hab':((a:Int)=b)↔(a=b):=by omega
  obtain⟨u,hu⟩:=q0b (show a<(z0l l.list (-1)).length by rw[z6W];exact ha)
  obtain⟨v,hv⟩:=q0b (show b<(z0l l.list a).length by rw[z6W];exact hb)
  have hla:=Y2G ha
  have hlb:=Y2G hb
  have hs:q8M l.list a b=(decide (a=b)||(u&& !v)):=by
    simp[q8M,x4N,Y3l,hu,hv,hab']
  refine zP z3b ?_
  by_cases hab:a=b
  · subst hab
    refine zA0 ?_
    simp[q8M]
  · have hd:decide ((a:Int)=b)=false:=Y2F (by omega)
    refine zR0f @hd ?_
    refine Y3y hP q6g (e1 (-1) _ _ _ (by simp) (by simp)) (by simp) rfl rfl rfl rfl (fun w g hO=> ?_)
    obtain⟨r,hw,rfl,hg,hn⟩:=hO
    have hL:=fun t=>z0J (C:=Ctx.of Tryz.prog gl K) (t:=t) hg (z2w _) (x2Q hu)
    simp only[Y2R]at hL
    cases u with
    | false=>
      refine Y2X hP (by simp[hd,hla,hL,q5G,q8q]<;>rfl) ?_
      try dsimp only[goK]
      refine zA0 ?_
      simp[hs,hab]
    | true=>
      refine Y2X hP (by simp[hd,hla,hL,q5G,q8q]<;>rfl) ?_
      try dsimp only[goK]
      refine Y3y hP q6g (e1 a _ _ _ (by simp) (by simp)) (by simp) rfl rfl rfl rfl (fun w g2 hO=> ?_)
      obtain⟨r2,hw2,rfl,hg2,hn2⟩:=hO
      have hL2:=fun t=>z0J (C:=Ctx.of Tryz.prog gl K) (t:=t) hg2 (z2w _) (x2Q hv)
      simp only[Y2R]at hL2
      refine Y2X hP (by simp[hd,hlb,hL2,q5G,q8q]<;>rfl) ?_
      try dsimp only[goK]
      refine zA0 ?_
      simp[hs,hab]
theorem z8R(hP:POk Tryz.prog F gl K)(hX:∀f a,K.ext f a=none){p:LProg}{f:Nat}{x:LFunc}(H:FnAt p f x)(r:Int)(b:Nat)(hb:b<x.blocks.list.length)(at_:Int):
    PureC Tryz.prog F q8b [.agg p.cells,.int .i64 f,.int .i64 r,.int .i64 b,.int .i64 at_] (.bool (q3g p x r b at_)):=by
  have e1:=z7v hP hX H r
  obtain⟨hs,hf,hok,hT,hsgs⟩:=H
  have hfl:=Y2G (Y0m.1 hf).1
  have hav:=q0j (e:=LFunc.cells) (show 0<p.funcs.list.length by have:=(Y0m.1 hf).1;omega)
  simp only[LProg.cells,hav]at e1
  refine zP z3c ?_
  cases hw:q4O x.blocks.list 0 (r-q0w p x)with
  | none=>
    have e2:q2Z p x r=(-1,r):=by simp[q2Z,hw]
    rw[e2]at e1
    refine zA1f (zc @hf (zc @hfl @hav)) q1S e1 ?_
    simp[q3g,e2]
  | some v=>
    obtain⟨c,i⟩:=v
    obtain⟨_,y,hy,hi,_⟩:=q6C hw
    rw[Y1H]at hy
    have hcl:=(Y0m.1 hy).1
    have e2:q2Z p x r=((c:Int),(i:Int)):=by simp[q2Z,hw]
    rw[e2]at e1
    have e3:=x7q hP hX x.blocks (by have:=(hs.funcs x (Y0N hf)).blk.1;omega) (q4d hok) c b hcl hb
    have hc0:decide ((c:Int)<0)=false:=Y2F (by omega)
    by_cases hcb:c=b
    · subst hcb
      refine zA1f (zc @hf (zc @hfl (zc @hav @hc0))) q1S e1 ?_
      all_goals (focus(simp_all[q3g];intro hh;exfalso;omega))
    · have hd:decide ((c:Int)=b)=false:=Y2F (by omega)
      refine zA2f (zc @hf (zc @hfl (zc @hav (zc @hd @hc0)))) q1S e1 z2U e3 ?_
      simp[q3g,e2,show¬(c:Int)=b by omega,show¬(c:Int)<0 by omega]
theorem x7P{t:List LType}{k kd:Int}(h:isT t k kd=true)(hk:k<t.length):∃(n:Nat) (x:LType),k=(n:Int)∧n<t.length∧t[n]? =some x∧x.kind=kd:=by
 simp only[isT,Y1X,Y2h]at h
 obtain⟨n,rfl⟩:=Y3j h.1
 obtain⟨x,hx⟩:=q0b (show n<t.length by omega)
 refine⟨n,x,rfl,by omega,hx,?_⟩
 have:=h.2
 simpa [q7s,hx]using this
theorem to12_lt{t:List LType}(hT:OkT t){k:Int}(hk:k<t.length):to12 t k<t.length:=by
 unfold to12
 split
 ·rename_i h
  obtain⟨n,x,rfl,hn,hx,hkd⟩:=x7P h hk
  have:=hT.elem x (Y0N hx)
  simp only[q1V,Y3N,hx]
  omega
 ·omega
theorem natZ:q6t (AV.int .i64 0)=some 0:=rfl
theorem natO:q6t (AV.int .i64 1)=some 1:=rfl
@[simp] theorem nr_isl(a:Int)(r:List Int):q3Z (.isl ([AV.int .i64 a]::r.map cI))=true:=q3T (e:=cI) (fun _=>rfl) (Sl.mk (a::r))
set_option maxHeartbeats 4000000 in
theorem q7H(hP:POk Tryz.prog F gl K)(hX:∀f a,K.ext f a=none)(p:LProg)(hT:OkT p.types.list)(x:LIns)(a b:Int)(r:List Int)(h2:x.op=15∨x.op=17→∃r',r=b::r')(hop:14≤x.op∧x.op≤17)(hal:a<p.types.list.length)(hbl:b<p.types.list.length)(hxt:x.type<p.types.list.length):
    PureC Tryz.prog F q4L [.agg p.cells,.agg x.cells,.isl ((a::r).map cI)] (.bool (z5G p.types.list x (a::r))):=by
  have e1:=x1A hP p a hal
  obtain⟨s,hs⟩:∃s,s=to12 p.types.list a:=⟨_,rfl⟩
  have hsl:s<p.types.list.length:=by rw[hs];exact to12_lt hT hal
  rw[←hs]at e1
  refine zP z1T ?_
  refine zG ?_
  refine Y2U (fun g=>g.get 0=some (.cells q0o p.cells)∧g.get 1=some (.cells q1e x.cells)) ⟨by simp,by simp⟩ fun g hg=> ?_
  obtain⟨hg0,hg1⟩:=hg
  dsimp only[q0o,q1e]at hg0 hg1
  simp only[LProg.cells]at e1
  refine zEf (zc @hg0 (zc @natZ (zc @z5S @z6f))) (tl 206 [.agg [p.types.av LType.cells,p.funcs.av LFunc.cells],.int .i64 a] (.int .i64 s) (e1) t0) ?_
  simp only[z5G,List.getD_cons_zero,←hs]
  have htv:=fun h:0<p.types.list.length=>q0j (e:=LType.cells) h
  by_cases h14:x.op=14
  · have e2:=q5N hP p s 4 hsl
    simp only[LProg.cells]at e2
    cases hi:isT p.types.list s 4 with
    | false=>
      rw[hi]at e2
      refine zR0f (zc @hg1 @h14) ?_
      refine zEf (zc @hg0 (zc @hg1 (zc @q1C @q1D))) (tl 52 [.agg [p.types.av LType.cells,p.funcs.av LFunc.cells],.int .i64 s,.int .u8 4] (.bool false) (e2) t0) ?_
      refine zA0 ?_
      simp[h14]
    | true=>
      rw[hi]at e2
      obtain⟨n,y,rfl,hn,hy,hyk⟩:=x7P hi hsl
      have hnl:=Y2G hn
      have htv:=htv (by omega)
      have e3:=x2p hP y x.n (by have:=hT.parts y (Y0N hy);omega)
      have e4:=z7g hP p x.type (q5F y x.n) hxt
      simp only[LProg.cells,LType.cells,htv]at e2 e3 e4
      have hpa:z3r p.types.list n x.n=q5F y x.n:=by simp[z3r,hy]
      refine zR0f (zc @hg1 @h14) ?_
      refine zEf (zc @hg0 (zc @hg1 (zc @htv (zc @hnl (zc @hy (zc @q1C (zc @q1D (zc @z1P (zc @z2d (zc @q8F @q8I)))))))))) (tl 52 [.agg [.isl (p.types.list.map LType.cells),p.funcs.av LFunc.cells],.int .i64 n,.int .u8 4] (.bool true) (e2) (tl 208 [.agg [.int .u8 y.kind,.int .i64 y.elem,.int .i64 y.many,y.parts.av cI],.int .i64 x.n] (.int .i64 (q5F y x.n)) (e3) (tl 207 [.agg [.isl (p.types.list.map LType.cells),p.funcs.av LFunc.cells],.int .i64 x.type,.int .i64 (q5F y x.n)] (.bool (z3s p.types.list x.type (q5F y x.n))) (e4) t0))) ?_
      refine zA0 ?_
      simp[h14,hpa]
  by_cases h15:x.op=15
  · obtain⟨r',rfl⟩:=h2 (.inl h15)
    have e2:=q5N hP p s 5 hsl
    have e3:=q5N hP p b 1 hbl
    simp only[LProg.cells]at e2 e3
    simp only[List.getD_cons_succ,List.getD_cons_zero]
    cases hi:isT p.types.list s 5 with
    | false=>
      rw[hi]at e2
      refine zR0f (zc @hg1 (zc @h14 @h15)) ?_
      refine zEf (zc @hg0 (zc @hg1 (zc @q1C @q1D))) (tl 52 [.agg [p.types.av LType.cells,p.funcs.av LFunc.cells],.int .i64 s,.int .u8 5] (.bool false) (e2) t0) ?_
      refine zA0 ?_
      simp[h14,h15]
    | true=>
      rw[hi]at e2
      cases hj:isT p.types.list b 1 with
      | false=>
        rw[hj]at e3
        refine zR0f (zc @hg1 (zc @h14 @h15)) ?_
        refine zEf (zc @hg0 (zc @hg1 (zc @natO (zc @q1C @q1D)))) (tl 52 [.agg [p.types.av LType.cells,p.funcs.av LFunc.cells],.int .i64 s,.int .u8 5] (.bool true) (e2) (tl 52 [.agg [p.types.av LType.cells,p.funcs.av LFunc.cells],.int .i64 b,.int .u8 1] (.bool false) (e3) t0)) ?_
        refine zA0 ?_
        simp[h14,h15]
      | true=>
        rw[hj]at e3
        obtain⟨n,y,rfl,hn,hy,hyk⟩:=x7P hi hsl
        have hnl:=Y2G hn
        have htv:=htv (by omega)
        have e4:=z7g hP p x.type y.elem hxt
        simp only[LProg.cells,LType.cells,htv]at e2 e3 e4
        have hpa:q1V p.types.list n=y.elem:=by simp[q1V,hy]
        refine zR0f (zc @hg1 (zc @h14 @h15)) ?_
        refine zEf (zc @hg0 (zc @hg1 (zc @htv (zc @hnl (zc @hy (zc @natO (zc @q1C (zc @q1D (zc @q8F @q8I))))))))) (tl 52 [.agg [.isl (p.types.list.map LType.cells),p.funcs.av LFunc.cells],.int .i64 n,.int .u8 5] (.bool true) (e2) (tl 52 [.agg [.isl (p.types.list.map LType.cells),p.funcs.av LFunc.cells],.int .i64 b,.int .u8 1] (.bool true) (e3) (tl 207 [.agg [.isl (p.types.list.map LType.cells),p.funcs.av LFunc.cells],.int .i64 x.type,.int .i64 y.elem] (.bool (z3s p.types.list x.type y.elem)) (e4) t0))) ?_
        refine zA0 ?_
        simp[h14,h15,hpa]
  have e2:=z3Q hP p s
  simp only[LProg.cells]at e2
  by_cases h16:x.op=16
  · cases hi:q2J p.types.list s with
    | false=>
      rw[hi]at e2
      refine zA1f (zc @hg0 (zc @hg1 (zc @h14 (zc @h15 @h16)))) q2i e2 ?_
      simp[h14,h15,h16]
    | true=>
      rw[hi]at e2
      refine zA1f (zc @hg0 (zc @hg1 (zc @h14 (zc @h15 @h16)))) q2i e2 ?_
      simp[h14,h15,h16]
  · have h17:x.op=17:=by omega
    obtain⟨r',rfl⟩:=h2 (.inr h17)
    simp only[List.getD_cons_succ,List.getD_cons_zero]
    cases hi:q2J p.types.list s with
    | false=>
      rw[hi]at e2
      refine zA1f (zc @hg0 (zc @hg1 (zc @h14 (zc @h15 (zc @h16 (zc @h17 @natO)))))) q2i e2 ?_
      simp[h14,h15,h16]
    | true=>
      rw[hi]at e2
      refine zA1f (zc @hg0 (zc @hg1 (zc @h14 (zc @h15 (zc @h16 (zc @h17 @natO)))))) q2i e2 ?_
      simp[h14,h15,h16]
theorem z6M(a:Int)(r:List Int)(h:Hp):q2t (Ctx.of Tryz.prog gl K) q0m (.isl ((a::r).map cI)) (some (.int .i64 1)) none none h=some (.isl (r.map cI)):=by
 have h1:r.all ((fun c=>decide (c.length=1))∘cI)=true:=Y0G.2 fun x _=>by simp
 have h2:(r.map cI).take r.length=r.map cI:=Y2Q (by simp)
 simp[q2t,z0j,q6t,q3m,h1,h2]
end Go.Ax
