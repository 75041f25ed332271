import Derived.Test.YtdfjkochhifpmaaGreatDoorV19
set_option linter.unusedSimpArgs false
set_option linter.unusedVariables false
set_option maxRecDepth 20000
noncomputable section
namespace Go.Ax
open Go.Proofs
attribute [local irreducible] TW TO CallsT PureC
variable{F:Nat→Option Obj}{gl:Nat→AV}{K:Knob}{S S':Nat→Prop}
def nV(nx:Nat→Option Nat)(b:Nat):Int:=match nx b with|some c=>(c:Int)|none=> -1
def nC(f:Nat→Int):List AV:=(List.range 16).map fun b=>.int .i64 (f b)
theorem q7r(f:Nat→Int):(nC f).length=16:=by simp[nC]
theorem x5B(f:Nat→Int){b:Nat}(h:b<16):(nC f)[b]? =some (.int .i64 (f b)):=by simp[nC,h]
theorem nC_set(f:Nat→Int){b:Nat}(h:b<16)(c:Int):(nC f).set b (.int .i64 c)=nC fun x=>if x=b then c else f x:=by
 refine Y2T fun t=> ?_
 by_cases ht:t<16
 ·rw[Y1I,x5B _ ht,x5B _ ht,q7r]
  by_cases e:b=t
  ·subst e;simp[h]
  ·simp[e,show¬t=b from fun h=>e h.symm]
 ·rw[Y1I,Y1V (by rw[q7r];omega),Y1V (by rw[q7r];omega)]
  simp[show¬b=t by omega]
def RulAt(rq:Nat)(f od:Nat→Int)(h:Hp):Prop:=h.get rq=some (.cells q2L (nC f++nC od))
theorem z3y(f od:Nat→Int){x:Nat}(hx:x<16):(nC f++nC od)[x]? =some (.int .i64 (f x)):=by rw[Y0i (by rw[q7r];exact hx),x5B f hx]
theorem z3G(f od:Nat→Int){x:Nat}(hx:x<16):(nC f++nC od)[16+x]? =some (.int .i64 (od x)):=by rw[Y0j (by rw[q7r];omega),q7r,show 16+x-16=x by omega,x5B od hx]
structure SameH(h g:Hp):Prop where
 nx:g.nx=h.nx
 get:∀s,g.get s=h.get s
theorem SameH.refl(h:Hp):SameH h h:=⟨rfl,fun _=>rfl⟩
theorem SameH.z{h g:Hp}(H:SameH h g):SameH h g.z:=⟨H.nx,H.get⟩
theorem RulAt.same{rq:Nat}{f od:Nat→Int}{h g:Hp}(H:RulAt rq f od h)(hs:SameH h g):RulAt rq f od g:=(hs.get rq).trans H
set_option maxHeartbeats 4000000 in
theorem meet_mem(hP:POk Tryz.prog F gl K)(hX:∀f a,K.ext f a=none){rq:Nat}{nx:Nat→Option Nat}{od:Nat→Int}{ord:Nat→Nat}(h:Hp)(hr:RulAt rq (nV nx) od h)(hrn:rq<h.nx)
  (hset:∀x c,nx x=some c→(nx c).isSome=true) (hord:∀x,(nx x).isSome=true→x<16∧od x=ord x) (hfall:∀x c,nx x=some c→x≠0→ord c<ord x) (h0:ord 0=0) (a b c:Nat) (ha:(nx a).isSome=true) (hb:(nx b).isSome=true) (hm:Meet (nxt nx) ord a b c):
  CallsT Tryz.prog F h (fun u g=>u= .int .i64 c∧SameH h g) q6K [.ptr rq 0,.int .i64 a,.int .i64 b]:=by
 refine Y2y hP q0f z5f rfl rfl ?_
 refine zR0 ?_
 refine Y2H (fun q:Nat×Nat=>[(0,.ptr rq 0),(1,.int .i64 q.1),(2,.int .i64 q.2)]) (fun q g=>SameH h g∧(nx q.1).isSome=true∧(nx q.2).isSome=true∧Meet (nxt nx) ord q.1 q.2 c) (fun q=>ord q.1+ord q.2) ((a,b)) ?_ ?_ ?_
 focus(repeat' first|exact q0h|refine q0e (by simp) ?_)
 ·exact⟨.refl h,ha,hb,hm⟩
 clear ha hb hm a b
 rintro⟨a,b⟩ g ⟨hsame,ha,hb,hm⟩
 dsimp only at ha hb hm⊢
 refine zR0 ?_
 refine Y2w hP rfl (fun hc=>Y2s ?_) (fun hc=>Y2t ?_)
 ·simp at hc
  have hab:a≠b:=fun e=>hc (by rw[e])
  dsimp only[q0a]
  refine zA0 ?_
  refine Y2H (fun a':Nat=>[(0,.ptr rq 0),(1,.int .i64 a'),(2,.int .i64 b)]) (fun a' g=>SameH h g∧(nx a').isSome=true∧Meet (nxt nx) ord a' b c∧(a'=a∨ord a'<ord a)) (fun a'=>ord a') (a) ?_ ?_ ?_
  focus(repeat' first|exact q0h|refine q0e (by simp) ?_)
  ·exact⟨hsame,ha,hm,.inl rfl⟩
  clear hsame g
  rintro a' g ⟨hsame,ha',hm',hlt⟩
  obtain⟨ha16,hao⟩:=hord a' ha'
  obtain⟨hb16,hbo⟩:=hord b hb
  have hr':=hr.same hsame
  have hrn':¬g.nx≤rq:=by rw[hsame.nx];omega
  have ad:=Y2G ha16
  have bd:=Y2G hb16
  have l1:=z3G (nV nx) od ha16
  have l2:=z3G (nV nx) od hb16
  have l3:=z3y (nV nx) od ha16
  have hgr:g.get rq=_:=hr'
  dsimp only[q2L]at hgr
  by_cases hgt:ord b<ord a'
  ·have hd:decide (od b<od a')=true:=Y2G (by rw[hao,hbo];omega)
   have ha0:a'≠0:=fun e=>by rw[e,h0]at hgt;omega
   obtain⟨n,hn⟩:=Y0W.1 ha'
   have hnv:nV nx a'=n:=by simp[nV,hn]
   have hnt:nxt nx a'=n:=by simp[nxt,hn]
   have hf:=hfall a' n hn ha0
   have hm2:Meet (nxt nx) ord n b c:=by
    cases hm' with
    |same=>omega
    |left _ k=>rw[hnt]at k;exact k
    |right h _=>omega
   refine zEf (zc @hgr (zc @l1 (zc @l2 (zc @ad (zc @bd @hd))))) t0 ?_
   refine zA0f (zc @hgr (zc @l3 (zc @ad @hnv))) ?_
   have hlt2:ord n<ord a:=by
    rcases hlt with e|e
    ·rw[←e];exact hf
    ·omega
   refine⟨n,hf,trivial,?_,hsame.z,hset a' n hn,hm2,.inr hlt2⟩
   exact zL
  ·have hd:decide (od b<od a')=false:=Y2F (by rw[hao,hbo];omega)
   refine zEf (zc @hgr (zc @l1 (zc @l2 (zc @ad (zc @bd @hd))))) t0 ?_
   refine zA0 ?_
   refine Y2H (fun b':Nat=>[(0,.ptr rq 0),(1,.int .i64 a'),(2,.int .i64 b')]) (fun b' g=>SameH h g∧(nx b').isSome=true∧Meet (nxt nx) ord a' b' c∧(b'=b∨ord b'<ord b)) (fun b'=>ord b') (b) ?_ ?_ ?_
   focus(repeat' first|exact q0h|refine q0e (by simp) ?_)
   ·exact⟨hsame.z,hb,hm',.inl rfl⟩
   clear hsame hr' hgr hrn' g
   rintro b' g ⟨hsame,hb',hm2,hlt2⟩
   obtain⟨hb16',hbo'⟩:=hord b' hb'
   have hr':=hr.same hsame
   have bd':=Y2G hb16'
   have l4:=z3G (nV nx) od hb16'
   have l5:=z3y (nV nx) od hb16'
   have hgr:g.get rq=_:=hr'
   dsimp only[q2L]at hgr
   by_cases hgt2:ord a'<ord b'
   ·have hd2:decide (od a'<od b')=true:=Y2G (by rw[hao,hbo'];omega)
    have hb0:b'≠0:=fun e=>by rw[e,h0]at hgt2;omega
    obtain⟨n,hn⟩:=Y0W.1 hb'
    have hnv:nV nx b'=n:=by simp[nV,hn]
    have hnt:nxt nx b'=n:=by simp[nxt,hn]
    have hf:=hfall b' n hn hb0
    have hm3:Meet (nxt nx) ord a' n c:=by
     cases hm2 with
     |same=>omega
     |left h _=>omega
     |right _ k=>rw[hnt]at k;exact k
    refine zEf (zc @hgr (zc @l1 (zc @l4 (zc @ad (zc @bd' @hd2))))) t0 ?_
    refine zA0f (zc @hgr (zc @l5 (zc @bd' @hnv))) ?_
    have hlt3:ord n<ord b:=by
     rcases hlt2 with e|e
     ·rw[←e];exact hf
     ·omega
    refine⟨n,hf,trivial,?_,hsame.z,hset b' n hn,hm3,.inr hlt3⟩
    exact zL
   ·have hd2:decide (od a'<od b')=false:=Y2F (by rw[hao,hbo'];omega)
    refine zEf (zc @hgr (zc @l1 (zc @l4 (zc @ad (zc @bd' @hd2))))) t0 ?_
    refine zA0 ?_
    have hless:ord a'+ord b'<ord a+ord b:=by
     have hlt3:ord b'≤ord b:=by
      rcases hlt2 with e|e
      ·rw[e];exact Y0u _
      ·omega
     rcases hlt with e|e
     ·rcases hlt2 with e2|e2
      ·subst e;subst e2
       cases hm with
       |same=>exact absurd rfl hab
       |left h _=>exact absurd h hgt
       |right h _=>exact absurd h hgt2
      ·rw[e];omega
     ·omega
    refine⟨(a',b'),hless,trivial,?_,hsame.z,ha',hb',hm2⟩
    exact zL
 ·simp at hc
  have hab:a=b:=by omega
  subst hab
  have hca:c=a:=by
   cases hm with
   |same=>rfl
   |left h _=>omega
   |right h _=>omega
  subst hca
  dsimp only[q0a]
  refine zA0 ?_
  exact⟨trivial,hsame⟩
structure Env2(F:Nat→Option Obj)(gl:Nat→AV)(K:Knob):Prop where
 env:Env F gl K
 arr:K.eqT q5I=true
theorem x5o{y:TI}{ih:AV→AV→Option Bool}(hs:y.size=1)(ha:y.isAgg=false)(hih:∀a b:Int,ih (.int .i64 a) (.int .i64 b)=some (decide (a=b)))(f g:Nat→Int):∀k i,i+k≤16→∃b,z8Y ih y (nC f) (nC g) k i=some b∧(b=true↔∀j,i≤j→j<i+k→f j=g j)
  |0,i,_=>⟨true,rfl,⟨fun _ j h1 h2=>by omega,fun _=>rfl⟩⟩
  | k +1,i,hi=>by
    have p1:∀f:Nat→Int,q2r y (nC f) (Nat.mul i y.size)=some (.int .i64 (f i)):=fun f=>by
      unfold q2r
      rw[ha,hs,Nat.mul_eq,Y2R]
      exact x5B f (by omega)
    unfold z8Y
    rw[p1 f,p1 g]
    dsimp only
    rw[hih]
    by_cases h:f i=g i
    · rw[Y2G h]
      dsimp only
      obtain⟨b,h1,h2⟩:=x5o hs ha hih f g k (Nat.succ i) (by omega)
      refine⟨b,h1,h2.trans ⟨fun hh j h1 h2=> ?_,fun hh j h1 h2=>hh j (by omega) (by omega)⟩⟩
      by_cases e:j=i
      ·rw[e];exact h
      ·exact hh j (by omega) (by omega)
    · rw[Y2F h]
      exact⟨false,rfl,⟨fun h=>(by cases h),fun hh=>absurd (hh i (Y0u _) (by omega)) h⟩⟩
theorem eq_arr(hA:K.eqT q5I=true)(f g:Nat→Int):∃b,(∀T,q0B (Ctx.of Tryz.prog gl (K.tell T)) .eql q5I (.agg (nC f)) (.agg (nC g))=some (.bool b))∧(b=true↔∀j,j<16→f j=g j):=by
  have hih:∀T,∀a b:Int,eqA (Ctx.of Tryz.prog gl (K.tell T)) 99 3 (.int .i64 a) (.int .i64 b)=some (decide (a=b)):=fun T a b=>by
    show z0x (Ctx.of Tryz.prog gl (K.tell T)) (eqA (Ctx.of Tryz.prog gl (K.tell T)) 98) 3 (.int .i64 a) (.int .i64 b)=_
    unfold z0x
    simp only[ti3]
    show some (eqI a b)=_
    rw[q7R]
    by_cases h:a=b
    ·subst h;simp
    ·simp[h]
  obtain⟨ti,hti,hs,ha⟩:∃ti:TI,(∀T,(Ctx.of Tryz.prog gl (K.tell T)).ti 3=some ti)∧ti.size=1∧ti.isAgg=false:=⟨_,fun T=>ti3,rfl,rfl⟩
  obtain⟨b,h1,h2⟩:=x5o (ih:=fun a b=>some (match a,b with| .int _ a,.int _ b=>decide (a=b)|_,_=>false)) hs ha (fun a b=>rfl) f g 16 0 (by omega)
  refine⟨b,fun T=> ?_,h2.trans ⟨fun h j hj=>h j (by omega) (by omega),fun h j _ hj=>h j (by omega)⟩⟩
  have h3:∀k i,i+k≤16→z8Y (eqA (Ctx.of Tryz.prog gl (K.tell T)) 99 3) ti (nC f) (nC g) k i=z8Y (fun a b=>some (match a,b with| .int _ a,.int _ b=>decide (a=b)|_,_=>false)) ti (nC f) (nC g) k i:=fun k=>by
    induction k with
    |zero=>exact fun _ _=>rfl
    | succ k ih=>
      intro i hi
      have p1:∀f:Nat→Int,q2r ti (nC f) (Nat.mul i ti.size)=some (.int .i64 (f i)):=fun f=>by
        unfold q2r
        rw[ha,hs,Nat.mul_eq,Y2R]
        exact x5B f (by omega)
      unfold z8Y
      rw[p1 f,p1 g]
      dsimp only
      rw[hih T,ih (Nat.succ i) (by omega)]
  have h4:eqA (Ctx.of Tryz.prog gl (K.tell T)) 100 q5I (.agg (nC f)) (.agg (nC g))=some b:=by
    show z0x (Ctx.of Tryz.prog gl (K.tell T)) (eqA (Ctx.of Tryz.prog gl (K.tell T)) 99) q5I (.agg (nC f)) (.agg (nC g))=_
    unfold z0x
    simp only[q5I,ti225]
    rw[hti T]
    dsimp only
    rw[h3 16 0 (by omega)]
    exact h1
  have h5:q6p (Ctx.of Tryz.prog gl (K.tell T)) q5I (.agg (nC f)) (.agg (nC g))=true:=hA
  show(bif q6p (Ctx.of Tryz.prog gl (K.tell T)) q5I (.agg (nC f)) (.agg (nC g))then(match eqA (Ctx.of Tryz.prog gl (K.tell T)) 100 q5I (.agg (nC f)) (.agg (nC g))with|some b=>some (AV.bool b)|none=>none)else none)=_
  rw[h5,h4];rfl
end Go.Ax
noncomputable section
namespace Go.Ax
variable{P:Program}{F:Nat→Option Obj}{n:Nat}{rd:Option Nat}{l:Kn}{h:Hp}{ds:List ADef}{Q:PQ}
def scopeQ(Q:PQ):PQ:=fun e l h ds=>(match e with| .goto _=>False|_=>True)∧Q e l h ds
theorem TW.scope{c:Code}(ht:TW P F c n rd l h ds (scopeQ Q)):TW P F (.scope c) n rd l h ds Q:=fun s hs m a w fe k hr ha hf hF=>
 z9G (x1D (wpIn_mono (ht s hs m a w fe k hr ha hf hF) fun x a' w' hp=>by
  obtain⟨e,s',l',h',ds',⟨hne,q⟩,r1,r2,m',hx,r⟩:=hp
  cases hx with
  |goto t=>exact False.elim hne
  |normal=>exact⟨_,s',l',h',ds',q,r1,r2,m',.normal,r⟩
  |exit id=>exact⟨_,s',l',h',ds',q,r1,r2,m',.exit id,r⟩
  |ret=>exact⟨_,s',l',h',ds',q,r1,r2,m',.ret,r⟩
  |panic hv=>exact⟨_,s',l',h',ds',q,r1,r2,m',.panic hv,r⟩))
end Go.Ax
set_option maxRecDepth 20000
noncomputable section
namespace Go.Ax
open Go.Proofs
attribute [local irreducible] TW TO CallsT PureC
variable{F:Nat→Option Obj}{gl:Nat→AV}{K:Knob}{S S':Nat→Prop}
def ordN(l:List LBlock)(b:Nat):Nat:=(q0L l).idxOf b
def odN(l:List LBlock)(b:Nat):Int:=if b∈q0L l then(ordN l b:Int)else-1
structure RulersOk(l:List LBlock)(nx:Nat→Option Nat):Prop where
 zero:nx 0=some 0
 set:∀b c,nx b=some c→(nx c).isSome=true
 fall:∀b c,nx b=some c→b≠0→ordN l c<ordN l b
 mem:∀b,(nx b).isSome=true↔b∈q0L l
 rules:∀b∈q0L l,∀r,Anc (nxt nx) b r↔RulesW (q6O (toN l)) r b
structure Ordered(l:List LBlock)(par:Nat→Nat)(t:List Nat):Prop where
 head:q0L l=0::t
 nodup:(q0L l).Nodup
 tree:Tree (q6O (toN l)) (·∈q0L l) par (ordN l)
 closed:∀a b,a∈q0L l→q6O (toN l) a b→b∈q0L l
 way:∀b,b∈q0L l↔∃k,Way (q6O (toN l)) k b
 low:∀b∈q0L l,b<l.length
theorem ordered{l:List LBlock}(hl0:0<l.length)(hto:∀b∈l,∀t∈to9 b.ed,0≤t∧t<l.length):∃par t,Ordered l par t:=by
 obtain⟨bg,dn,hw,ho⟩:=x3w hl0 hto
 obtain⟨⟨par,T⟩,⟨t,ht⟩,hn,hcl,hbg⟩:=hw.order
 have hm:∀y,y∈q0L l↔y∈dn:=fun y=>by rw[ho];simp
 have hway:∀b,b∈q0L l↔∃k,Way (q6O (toN l)) k b:=fun b=>(hm b).trans (z9j hw b)
 have hord:(fun x=>dn.reverse.idxOf x)=ordN l:=by funext x;unfold ordN;rw[ho]
 rw[hord]at T
 refine⟨par,t,by rw[ho,ht],?_,⟨T.zero,fun x h0 hx=>T.edge x h0 ((hm x).1 hx),fun x h0 hx=>T.fall x h0 ((hm x).1 hx),fun x hx=>(hm _).2 (T.there x ((hm x).1 hx))⟩,fun a b ha hab=>(hm b).2 (hcl a ((hm a).1 ha) b hab),hway,fun b hb=> ?_⟩
 ·rw[ho]
  unfold List.Nodup at*
  rw[List.pairwise_reverse]
  exact hn.imp fun h=>h.symm
 ·obtain⟨k,hk⟩:=(hway b).1 hb
  cases hk with
  |start=>exact hl0
  |step _ e=>exact q9i hto e
section
variable{l:List LBlock}{par:Nat→Nat}{t:List Nat}
theorem Ordered.zero(O:Ordered l par t):ordN l 0=0:=by unfold ordN;rw[O.head];simp
theorem Ordered.mem0(O:Ordered l par t):0∈q0L l:=by rw[O.head];exact Y0T
theorem Ordered.at_(O:Ordered l par t){b:Nat}(hb:b∈q0L l):(q0L l)[ordN l b]? =some b:=by
 unfold ordN
 rw[Y0n (Y3K hb),List.getElem_idxOf]
theorem Ordered.inj(O:Ordered l par t):∀x y,x∈q0L l→y∈q0L l→ordN l x=ordN l y→x=y:=fun x y hx hy e=>by
 have h1:=O.at_ hx
 rw[e,O.at_ hy]at h1
 injection h1 with h1
 exact h1.symm
theorem Ordered.lt(O:Ordered l par t):∀x,x∈q0L l→ordN l x<(q0L l).length:=fun x hx=>Y3K hx
theorem Ordered.of_at(O:Ordered l par t){i b:Nat}(h:(q0L l)[i]? =some b):b∈q0L l∧ordN l b=i:=by
 obtain⟨hi,rfl⟩:=Y0m.1 h
 exact⟨Y0H hi,by unfold ordN;exact O.nodup.idxOf_getElem i hi⟩
theorem Ordered.len(O:Ordered l par t):(q0L l).length≤l.length:=z3F _ _ O.nodup O.low
theorem Ordered.hR(O:Ordered l par t):∀k a,Way (q6O (toN l)) k a→a∈q0L l:=fun k a h=>(O.way a).2 ⟨k,h⟩
end
theorem x7N{f g:Nat→Int}(h:∀b,b<16→f b=g b):nC f=nC g:=by
 unfold nC
 exact Y1Z fun b hb=>by rw[h b (Y2o.1 hb)]
def z6u(l:List LBlock):List AV:=(List.range 16).map fun t:Nat=>(slL (q1p l t l.length)).av cI
theorem predsV_at{l:List LBlock}{b:Nat}(hb:b<16):(z6u l)[b]? =some ((slL (q1p l b l.length)).av cI):=by simp[z6u,hb]
theorem z9o{rq:Nat}{f od:Nat→Int}{m:Hp}(H:RulAt rq f od m){b:Nat}(hb:b<16)(c:Int):storeAt (Ctx.of Tryz.prog gl K) q0x (.ptr rq b) (.int .i64 c) m=some (m.put rq (.cells q2L (nC (fun x=>if x=b then c else f x)++nC od))):=by
 have hg:m.get rq=_:=H
 have hl:(nC f++nC od).length=32:=by simp[nC]
 have hs:(nC f++nC od).set b (.int .i64 c)=nC (fun x=>if x=b then c else f x)++nC od:=by
  rw[List.set_append_left _ _ (by rw[q7r];exact hb),nC_set f hb]
 have hst:=z4B (h:=m) (C:=Ctx.of Tryz.prog gl K) (e:=q2L) (r:=rq) (rows:=(nC f++nC od).map fun v=>[v]) (i:=b) (row:=[.int .i64 (f b)]) (es:=1) (v:=.int .i64 c) (by rw[z1t];exact hg) (fun c hc=>by obtain⟨_,_,rfl⟩:=Y2S.1 hc;rfl) (by rw[Y0R,z3y f od hb];rfl) rfl rfl (by omega) q0x (by simp[sz1])
 have hs2:((nC f++nC od).map fun v=>[v]).set b ([AV.int .i64 (f b)].set 0 (.int .i64 c))=((nC f++nC od).set b (.int .i64 c)).map fun v=>[v]:=by rw[List.map_set];rfl
 rw[hs2,z1t,hs,Y2R]at hst
 exact hst
theorem x4U{rq:Nat}{f od:Nat→Int}{m:Hp}(H:RulAt rq f od m){b:Nat}(hb:b<16)(c:Int):storeAt (Ctx.of Tryz.prog gl K) q0x (.ptr rq (16+b)) (.int .i64 c) m=some (m.put rq (.cells q2L (nC f++nC (fun x=>if x=b then c else od x)))):=by
 have hg:m.get rq=_:=H
 have hs:(nC f++nC od).set (16+b) (.int .i64 c)=nC f++nC (fun x=>if x=b then c else od x):=by
  rw[List.set_append_right _ _ (by rw[q7r];omega),q7r,show 16+b-16=b by omega,nC_set od hb]
 have hst:=z4B (h:=m) (C:=Ctx.of Tryz.prog gl K) (e:=q2L) (r:=rq) (rows:=(nC f++nC od).map fun v=>[v]) (i:=16+b) (row:=[.int .i64 (od b)]) (es:=1) (v:=.int .i64 c) (by rw[z1t];exact hg) (fun c hc=>by obtain⟨_,_,rfl⟩:=Y2S.1 hc;rfl) (by rw[Y0R,z3G f od hb];rfl) rfl rfl (by omega) q0x (by simp[sz1])
 have hs2:((nC f++nC od).map fun v=>[v]).set (16+b) ([AV.int .i64 (od b)].set 0 (.int .i64 c))=((nC f++nC od).set (16+b) (.int .i64 c)).map fun v=>[v]:=by rw[List.map_set];rfl
 rw[hs2,z1t,hs,Y2R]at hst
 exact hst
def preN(l:List LBlock)(b:Nat):List Nat:=(List.range l.length).filter fun i=>in27 (toAt l i) b
theorem x6n(l:List LBlock)(b:Nat):q1p l b l.length=nI (preN l b):=rfl
theorem x0Q{l:List LBlock}(hto:∀b∈l,∀t∈to9 b.ed,0≤t∧t<l.length){a b:Nat}(ha:a<l.length):a∈preN l b↔q6O (toN l) a b:=by
 obtain⟨y,hy⟩:=q0b ha
 unfold preN q6O
 rw[List.mem_filter,Y2o,x7I hy,Y2S,show toAt l a=to9 y.ed by simp[toAt,hy]]
 unfold in27
 rw[Y2m]
 constructor
 ·rintro⟨_,z,hz,he⟩
  exact⟨z,hz,by have:=Y3x he;omega⟩
 ·rintro⟨z,hz,he⟩
  have:=hto y (Y0N hy) z hz
  exact⟨ha,z,hz,Y2G (by omega)⟩
theorem preN_len(l:List LBlock)(b:Nat):(preN l b).length≤l.length:=by
 unfold preN
 exact Y0C (Y3G ..) (by simp)
theorem preN_lt{l:List LBlock}{a b:Nat}(h:a∈preN l b):a<l.length:=by
 unfold preN at h
 exact Y2o.1 (List.mem_filter.1 h).1
theorem Ordered.pos{l:List LBlock}{par:Nat→Nat}{t:List Nat}(O:Ordered l par t){b:Nat}(h:b≠0):0<ordN l b:=by
 by_cases hb:b∈q0L l
 ·by_cases h0:ordN l b=0
  ·exact absurd (O.inj b 0 hb O.mem0 (by rw[h0,O.zero])) h
  ·omega
 ·unfold ordN
  rw[List.idxOf_eq_length hb,O.head]
  simp
theorem x6q{l:List LBlock}{par:Nat→Nat}{t:List Nat}(O:Ordered l par t){nx:Nat→Option Nat}(H:Turns (q6O (toN l)) (·∈q0L l) par (ordN l) nx){a b:Nat}(ha:(nx a).isSome=true)(hb:(nx b).isSome=true):∃m,Meet (nxt nx) (ordN l) a b m∧(nx m).isSome=true:=by
 have hm:∀x,(nx x).isSome=true→x∈q0L l:=fun x hx=>by
  obtain⟨c,hc⟩:=Y0W.1 hx
  exact H.reach x c hc
 have hd:∀y,y≠0→ordN l (nxt nx y)<ordN l y:=fun y hy=>by
  cases hc:nx y with
  |none=>simp only[nxt,hc,Option.getD_none];rw[O.zero];exact O.pos hy
  |some c=>simp only[nxt,hc,Y2p];exact H.fall O.tree hy hc
 obtain⟨m,hm'⟩:=Meet.there hd O.zero _ a b (Y0u _) (fun e=>O.inj a b (hm a ha) (hm b hb) e) fun x y hx hy e=>O.inj x y (hm x (H.chain O.tree hx ha).2) (hm y (H.chain O.tree hy hb).2) e
 exact⟨m,hm',(H.chain O.tree (hm'.spec (H.drop O.tree O.zero)).1 ha).2⟩
def bV(o:Option Nat):Int:=match o with|some c=>(c:Int)|none=> -1
structure OfAt(l:List LBlock)(h0:Hp)(aq rq:Nat)(f od:Nat→Int)(g:Hp):Prop where
 rul:RulAt rq f od g
 pre:g.get aq=some (.cells q6Q (z6u l))
 wid:Wid h0 g
 low:h0.nx≤aq
 lt:aq<rq
 nx:rq<g.nx
theorem RulAt.up{rq:Nat}{f od:Nat→Int}{g:Hp}(H:RulAt rq f od g):RulAt rq f od g.up:=q4z.trans H
theorem OfAt.put{l:List LBlock}{h0:Hp}{aq rq:Nat}{f od:Nat→Int}(f' od':Nat→Int){g m:Hp}(H:OfAt l h0 aq rq f od g)(hm:∀s,m.get s=(g.put rq (.cells q2L (nC f'++nC od'))).get s)(hn:m.nx=g.nx):OfAt l h0 aq rq f' od' m:=by
 have:=H.lt
 have:=H.low
 exact⟨by show m.get rq=_;rw[hm,get_put,Y0e rfl],by rw[hm,get_put,Y0c (by omega)];exact H.pre,⟨by rw[hn];exact H.wid.nx,fun s hs=>by rw[hm,get_put,Y0c (by omega)];exact H.wid.get s hs⟩,H.low,H.lt,by rw[hn];exact H.nx⟩
theorem OfAt.z{l:List LBlock}{h0:Hp}{aq rq:Nat}{f od:Nat→Int}{g:Hp}(H:OfAt l h0 aq rq f od g):OfAt l h0 aq rq f od g.z:=⟨H.rul,H.pre,H.wid.z,H.low,H.lt,H.nx⟩
theorem OfAt.same{l:List LBlock}{h0:Hp}{aq rq:Nat}{f od:Nat→Int}{g m:Hp}(H:OfAt l h0 aq rq f od g)(hs:SameH g m):OfAt l h0 aq rq f od m:=
 ⟨H.rul.same hs,(hs.get aq).trans H.pre,⟨by rw[hs.nx];exact H.wid.nx,fun s h=>(hs.get s).trans (H.wid.get s h)⟩,H.low,H.lt,by rw[hs.nx];exact H.nx⟩
theorem nV_inj{a b:Option Nat}(h:(match a with|some c=>(c:Int)|none=> -1)=(match b with|some c=>(c:Int)|none=> -1)):a=b:=by
 cases a<;>cases b<;>simp at h⊢<;>omega
theorem OfAt.ext{l:List LBlock}{h0:Hp}{aq rq:Nat}{f od f' od':Nat→Int}{g:Hp}(H:OfAt l h0 aq rq f od g)(h1:∀b,b<16→f b=f' b)(h2:∀b,b<16→od b=od' b):OfAt l h0 aq rq f' od' g:=
 ⟨by have:g.get rq=_:=H.rul;rw[x7N h1,x7N h2]at this;exact this,H.pre,H.wid,H.low,H.lt,H.nx⟩
theorem x6m(l:List LBlock):(z6u l).length=16:=by simp[z6u]
theorem x1M(l:List LBlock):(z6u l).all q1f=true:=Y0G.2 fun v hv=>by
 obtain⟨t,_,rfl⟩:=Y2S.1 hv
 exact z3J _
set_option maxHeartbeats 4000000 in
theorem of_mem (hV:Env2 F gl K) {p:LProg} {f:Nat} {x:LFunc} (H:GateAt p f x) (h0:Hp):
    CallsT Tryz.prog F h0 (fun v g=>∃rq nx,v= .ptr rq 0∧rq<g.nx∧Wid h0 g∧RulAt rq (nV nx) (odN x.blocks.list) g∧RulersOk x.blocks.list nx) z9F [.agg p.cells,.int .i64 f]:=by
  have hP:=hV.env.P
  have hX:=hV.env.X
  obtain⟨hs1,hs2,hs3⟩:=H.fn.small
  have hto:=q4d H.fn.ok
  obtain⟨par,t,O⟩:=ordered (show 0<x.blocks.list.length by omega) hto
  have hf:=H.fn.at_
  have hfl:=Y2G (Y0m.1 hf).1
  have hfv:=q0j (e:=LFunc.cells) (show 0<p.funcs.list.length by have:=(Y0m.1 hf).1;omega)
  have e1:=x7t hV.env H
  have e2:PureC Tryz.prog F q9I [x.blocks.av LBlock.cells] (.agg (z6u x.blocks.list)):=x7i hP hX x.blocks hs1 hto (z3S H.fn.ok)
  simp only[LProg.cells,hfv]at e1
  have hpl:=x6m x.blocks.list
  have hpc:=x1M x.blocks.list
  refine Y2y hP q0f E_dom_of rfl rfl ?_
  refine zR0 ?_
  refine TW.scope ?_
  repeat' first|refine Y2v ?_|refine Y2x ?_|(refine Y2W hP (by simp[hf,hfl,hfv,hpl,hpc,cellsOf,q1h]<;>rfl) ?_;dsimp only[goK])|(refine Y2O hP x2t (e1) ?_ rfl rfl rfl rfl ?_;(focus(simp;done));refine Y2X hP (by simp[hf,hfl,hfv,hpl,hpc,cellsOf,q1h]<;>rfl) ?_;dsimp only[goK])|(refine Y2O hP x4v (e2) ?_ rfl rfl rfl rfl ?_;(focus(simp;done));refine Y2X hP (by simp[hf,hfl,hfv,hpl,hpc,cellsOf,q1h]<;>rfl) ?_;dsimp only[goK])
  obtain⟨aq,haq⟩:∃aq,aq=h0.nx+1:=⟨_,rfl⟩
  obtain⟨rq,hrq⟩:∃rq,rq=h0.nx+1+1:=⟨_,rfl⟩
  rw[←hrq]
  rw[←haq]
  have hz:∀k:Int,nC (fun _=>k)=List.replicate 16 (.int .i64 k):=fun k=>rfl
  refine Y2H (fun i:Nat=>[(5,(slL (nI (q0L x.blocks.list))).av cI),(7,.ptr aq 0),(8,.ptr rq 0),(33,.int .i64 i)]) (fun i g=>i≤16∧OfAt x.blocks.list h0 aq rq (fun b=>if b<i then-1 else 0) (fun b=>if b<i then-1 else 0) g) (fun i=>16-i) (0) ?_ ?_ ?_
  focus(repeat' first|exact q0h|refine q0e (by simp) ?_)
  · refine⟨by omega,⟨?_,?_,?_,by omega,by omega,?_⟩⟩
    · show Hp.get _ rq=_
      have:nC (fun b=>if b<0 then-1 else 0)=nC fun _=>0:=x7N fun b _=>by simp
      rw[this,hz]
      simp[hrq]
    ·simp[haq,hrq]
    · refine⟨by simp;omega,fun s hs=> ?_⟩
      simp[show¬h0.nx+1+1=s by omega,show¬h0.nx+1=s by omega,show¬h0.nx=s by omega,show¬aq=s by omega,show¬rq=s by omega]
    ·simp;omega
  rintro i g ⟨hi,hA⟩
  have hrn:=hA.nx
  refine zR0 ?_
  refine Y2w hP rfl (fun hc=>Y2s ?_) (fun hc=>Y2t ?_)
  · simp at hc
    have hc16:i<16:=by omega
    have hid:=Y2G hc16
    have hS1:=z9o (gl:=gl) (K:=K.tell []) hA.rul.up hc16 (-1)
    have hA1:RulAt rq (fun x=>if x=i then-1 else if x<i then-1 else 0) (fun b=>if b<i then-1 else 0) (g.put rq (.cells q2L (nC (fun x=>if x=i then-1 else if x<i then-1 else 0)++nC (fun b=>if b<i then-1 else 0)))):=by
      show Hp.get _ rq=_
      rw[get_put,Y0e rfl]
    have hS2:=x4U (gl:=gl) (K:=K.tell []) hA1.up hc16 (-1)
    dsimp only[q0x,q2L]at hS1 hS2
    dsimp only[q0a]
    refine zR0 ?_
    skip
    refine Y3d hP [] (fun e he=>by cases he) [0,0,0,0,1,17,51,115,4,260,1023,2047] (by kernel_rfl) (by kernel_rfl) (by simp[hX,hid,hS1,hS2, -storeAt,(show¬g.nx≤rq by omega),oneD,fpAt,fpOf,q0z,ldOf,q0V,q0n,FP.clash,FP.hard,FP.soft,overlap,inR,q0E,q1J,Nat.testBit,show¬g.nx+1≤g.nx by omega,show¬g.nx+2≤g.nx by omega,show¬g.nx+2≤g.nx+1 by omega,show¬g.nx+3≤g.nx by omega,show¬g.nx+3≤g.nx+1 by omega,show¬g.nx+3≤g.nx+2 by omega]<;>rfl) ?_
    repeat' (refine q1g (fun hb=> ?_) (fun hb=> ?_)<;>(try simp only[Y3e,Y1k,Y3f]at hb)<;>refine q3i (by simp[hb,hX,hid,hS1,hS2, -storeAt,(show¬g.nx≤rq by omega),oneD,fpAt,fpOf,q0z,ldOf,q0V,q0n,FP.clash,FP.hard,FP.soft,overlap,inR,q0E,q1J,Nat.testBit,show¬g.nx+1≤g.nx by omega,show¬g.nx+2≤g.nx by omega,show¬g.nx+2≤g.nx+1 by omega,show¬g.nx+3≤g.nx by omega,show¬g.nx+3≤g.nx+1 by omega,show¬g.nx+3≤g.nx+2 by omega]<;>rfl) ?_)
    all_goals dsimp only[okD,q0a]
    refine zA0 ?_
    refine⟨i+1,by omega,trivial,?_,by omega,OfAt.ext ((hA.put (fun x=>if x=i then-1 else if x<i then-1 else 0) (fun b=>if b<i then-1 else 0) (m:=g.put rq _) (fun _=>rfl) rfl).put (fun x=>if x=i then-1 else if x<i then-1 else 0) (fun x=>if x=i then-1 else if x<i then-1 else 0) (fun _=>rfl) rfl) (fun b _=> ?_) fun b _=> ?_⟩
    ·exact zLf (w64s (show i<9000000000000000000 by omega))
    ·by_cases h1:b=i<;>by_cases h2:b<i<;>simp[h1,h2]<;>omega
    ·by_cases h1:b=i<;>by_cases h2:b<i<;>simp[h1,h2]<;>omega
  · simp at hc
    have hi16:i=16:=by omega
    subst hi16
    have hA0:OfAt x.blocks.list h0 aq rq (fun _=> -1) (fun b=>if b∈(q0L x.blocks.list).take 0 then(ordN x.blocks.list b:Int)else-1) g:=hA.ext (fun b hb=>by simp[hb]) fun b hb=>by simp[hb]
    clear hA hrn hz hi hc
    have hol:=O.len
    have hlu:=fun h=>q3j (C:=Ctx.of Tryz.prog gl K) (t:=q0m) (h:=h) (q2c (e:=cI) (slL (nI (q0L x.blocks.list)))) (q4B _)
    have hnl:(nI (q0L x.blocks.list)).length=(q0L x.blocks.list).length:=by simp[nI]
    rw[q0l,hnl]at hlu
    dsimp only[q0m]at hlu
    dsimp only[q0a]
    refine zR0f @hlu ?_
    refine Y2H (fun i:Nat=>[(5,(slL (nI (q0L x.blocks.list))).av cI),(7,.ptr aq 0),(8,.ptr rq 0),(47,(slL (nI (q0L x.blocks.list))).av cI),(48,.int .i64 (q0L x.blocks.list).length),(49,.int .i64 i)]) (fun i g=>i≤(q0L x.blocks.list).length∧OfAt x.blocks.list h0 aq rq (fun _=> -1) (fun b=>if b∈(q0L x.blocks.list).take i then(ordN x.blocks.list b:Int)else-1) g) (fun i=>(q0L x.blocks.list).length-i) (0) ?_ ?_ ?_
    focus(repeat' first|exact q0h|refine q0e (by simp) ?_)
    ·exact⟨Y0E _,hA0⟩
    clear hA0 g
    rintro i g ⟨hi,hA⟩
    have hrn:=hA.nx
    refine zR0 ?_
    refine Y2w hP rfl (fun hc=>Y2s ?_) (fun hc=>Y2t ?_)
    · simp at hc
      obtain⟨b,hb⟩:=q0b hc
      obtain⟨hbm,hbo⟩:=O.of_at hb
      have hb16:b<16:=by have:=O.low b hbm;omega
      have hbd:=Y2G hb16
      have hov:=q0j (e:=cI) (x:=slL (nI (q0L x.blocks.list))) (by rw[q0l,hnl];omega)
      rw[q0l]at hov
      have hbi:(nI (q0L x.blocks.list))[i]? =some (b:Int):=by rw[nI,Y0R,hb];rfl
      have hil:=Y2G (show i<(nI (q0L x.blocks.list)).length by rw[hnl];exact hc)
      have hS:=x4U (gl:=gl) (K:=K) hA.rul hb16 (i:Int)
      dsimp only[q0x,q2L]at hS
      dsimp only[q0a]
      repeat' first|refine Y2v ?_|refine Y2x ?_|(refine Y2W hP (by simp[hov,hbi,hil,hbd,hS, -storeAt]<;>rfl) ?_;dsimp only[goK])|simp only[q0a,q0c,q0d,↓reduceIte,Nat.reduceEqDiff,reduceCtorEq]
      refine⟨i+1,by omega,trivial,?_,by omega,(hA.put (fun _=> -1) (fun y=>if y=b then(i:Int)else if y∈(q0L x.blocks.list).take i then(ordN x.blocks.list y:Int)else-1) (fun _=>rfl) rfl).ext (fun _ _=>rfl) fun y _=> ?_⟩
      ·exact zLf (zc @hov (w64s (show i<9000000000000000000 by omega)))
      · have htk:(q0L x.blocks.list).take (i+1)=(q0L x.blocks.list).take i++[b]:=by rw[Y3L,hb];rfl
        rw[htk]
        by_cases h1:y=b
        ·subst h1;simp[hbo]
        ·simp[h1]
    · simp at hc
      obtain rfl:i=(q0L x.blocks.list).length:=by omega
      rw[Y3n]at hA
      have hA0:OfAt x.blocks.list h0 aq rq (fun _=> -1) (odN x.blocks.list) g:=hA
      have hS:=z9o (gl:=gl) (K:=K) hA0.rul (show 0<16 by omega) (0:Int)
      dsimp only[q0x,q2L]at hS
      dsimp only[q0a]
      repeat' first|refine Y2v ?_|(refine Y2W hP (by simp[natZ,hS, -storeAt]<;>rfl) ?_;dsimp only[goK])
      have hA1:=(hA0.put (fun y=>if y=0 then 0 else-1) (odN x.blocks.list) (m:=g.put rq (.cells 227 (nC (fun x=>if x=0 then 0 else-1)++nC (odN x.blocks.list)))) (fun _=>rfl) rfl).ext (f':=nV fun y=>if y=0 then some 0 else none) (od':=odN x.blocks.list) (fun y _=>by unfold nV;by_cases h:y=0<;>simp[h]) fun _ _=>rfl
      refine Y2U (fun m=>OfAt x.blocks.list h0 aq rq (nV fun y=>if y=0 then some 0 else none) (odN x.blocks.list) m) hA1 fun g hA=> ?_
      clear hA0 hA1 hS hrn hi hc
      refine TW.label ?_
      dsimp only[q0a]
      have hM0:Mid (q6O (toN x.blocks.list)) (·∈q0L x.blocks.list) par (ordN x.blocks.list) 0 1 (fun y=>if y=0 then some 0 else none):=Mid.start O.zero O.mem0 O.inj
      have hOv:(slL (nI (q0L x.blocks.list))).av cI= .isl ((0::nI t).map cI):=by rw[O.head];rfl
      have hsl:=fun h=>z6M (gl:=gl) (K:=K) 0 (nI t) h
      rw[←hOv]at hsl
      have htl:(nI t).length=t.length:=by simp[nI]
      dsimp only[q0m]at hsl
      have hol2:(q0L x.blocks.list).length=t.length+1:=by rw[O.head];rfl
      refine zR0 ?_
      refine Y2H (fun q:Nat×(Nat→Option Nat)=>[(5,(slL (nI (q0L x.blocks.list))).av cI),(7,.ptr aq 0),(8,.ptr rq 0)]) (fun q g=>OfAt x.blocks.list h0 aq rq (nV q.2) (odN x.blocks.list) g∧Mid (q6O (toN x.blocks.list)) (·∈q0L x.blocks.list) par (ordN x.blocks.list) q.1 1 q.2∧q.1≤17) (fun q=>18-q.1) ((0,fun y=>if y=0 then some 0 else none)) ?_ ?_ ?_
      focus(repeat' first|exact q0h|refine q0e (by simp) ?_)
      ·exact⟨hA,hM0,by omega⟩
      clear hA hM0 g
      rintro⟨k,nx⟩ g ⟨hA,hM,hk⟩
      dsimp only at hA hM hk⊢
      have hgr:g.get rq=_:=hA.rul
      have htk:(nC (nV nx)++nC (odN x.blocks.list)).take 16=nC (nV nx):=by rw[Y3w (by rw[q7r];omega),Y2Q (by rw[q7r];omega)]
      have hln:(nC (nV nx)++nC (odN x.blocks.list)).length=32:=by simp[nC]
      have hnl16:=q7r (nV nx)
      have hcl:(nC (nV nx)).all q1f=true:=Y0G.2 fun v hv=>by obtain⟨_,_,rfl⟩:=Y2S.1 hv;rfl
      dsimp only[q2L]at hgr
      repeat first|refine Y2v ?_|refine Y2x ?_
      refine Y2W hP (by simp[hgr,htk,hln,hnl16,hcl,q2r,sub,cellsOf,q1h]<;>rfl) ?_
      dsimp only[goK,q0a,q0c,q0d]
      obtain⟨wq,hwq⟩:∃wq,wq=g.nx:=⟨_,rfl⟩
      rw[←hwq]
      have hAn:=hA.nx
      have hAl:=hA.lt
      refine Y2U (fun m=>OfAt x.blocks.list h0 aq rq (nV nx) (odN x.blocks.list) m∧m.get wq=some (.cells q5I (nC (nV nx)))∧wq<m.nx∧rq<wq) ⟨⟨?_,?_,?_,hA.low,hA.lt,?_⟩,?_,?_,by omega⟩ fun m hm=> ?_
      · show Hp.get _ rq=_
        rw[get_put,Y0c (by omega),get_new,Y0c (by omega)];exact hA.rul
      ·rw[get_put,Y0c (by omega),get_new,Y0c (by omega)];exact hA.pre
      ·exact(hA.wid.new _).put (by have:=hA.low;omega) _
      ·rw[nx_put,nx_new];omega
      ·rw[get_put,Y0e rfl]
      ·rw[nx_put,nx_new];omega
      clear hA hgr hAn hwq g
      obtain⟨hA,hw,hwn,hrw⟩:=hm
      refine zR0f (zc @hsl @htl) ?_
      refine Y2H (fun q:Nat×(Nat→Option Nat)=>[(5,(slL (nI (q0L x.blocks.list))).av cI),(7,.ptr aq 0),(8,.ptr rq 0),(12,.ptr wq 0),(70,.isl ((nI t).map cI)),(71,.int .i64 t.length),(72,.int .i64 q.1)]) (fun q g=>q.1≤t.length∧OfAt x.blocks.list h0 aq rq (nV q.2) (odN x.blocks.list) g∧g.get wq=some (.cells q5I (nC (nV nx)))∧wq<g.nx∧Mid (q6O (toN x.blocks.list)) (·∈q0L x.blocks.list) par (ordN x.blocks.list) k (q.1+1) q.2∧Rnd (ordN x.blocks.list) (preN x.blocks.list) nx (t.take q.1) q.2) (fun q=>t.length-q.1) ((0,nx)) ?_ ?_ ?_
      focus(repeat' first|exact q0h|refine q0e (by simp) ?_)
      ·exact⟨Y0E _,hA,hw,hwn,hM,.nil⟩
      clear hA hw hwn m
      rintro⟨j,y⟩ g ⟨hj,hA,hw,hwn,hMy,hRy⟩
      dsimp only at hj hA hMy hRy⊢
      refine zR0 ?_
      refine Y2w hP rfl (fun hc=>Y2s ?_) (fun hc=>Y2t ?_)
      · simp at hc
        obtain⟨b,hb⟩:=q0b hc
        have hob:(q0L x.blocks.list)[j+1]? =some b:=by rw[O.head];simpa using hb
        obtain⟨hbm,hbo⟩:=O.of_at hob
        have hbl:=O.low b hbm
        have hb16:b<16:=by omega
        have hbd:=Y2G hb16
        have hbi:(nI t)[j]? =some (b:Int):=by rw[nI,Y0R,hb];rfl
        have hjl:=Y2G (show j<(nI t).length by rw[htl];exact hc)
        have hpre:=hA.pre
        have hpv:=predsV_at (l:=x.blocks.list) hb16
        have hpl2:=preN_len x.blocks.list b
        rw[x6n]at hpv
        have hlu2:=fun h=>q3j (C:=Ctx.of Tryz.prog gl K) (t:=q0m) (h:=h) (q2c (e:=cI) (slL (nI (preN x.blocks.list b)))) (q4B _)
        have hpnl:(nI (preN x.blocks.list b)).length=(preN x.blocks.list b).length:=by simp[nI]
        rw[q0l,hpnl]at hlu2
        dsimp only[q0m,q6Q]at hlu2 hpre
        dsimp only[q0a]
        refine zR0f (zc @hbi (zc @hjl (zc @hbd (zc @hpre (zc @hpv @hlu2))))) ?_
        refine Y2H (fun q:Nat×Option Nat=>[(5,(slL (nI (q0L x.blocks.list))).av cI),(7,.ptr aq 0),(8,.ptr rq 0),(12,.ptr wq 0),(70,.isl ((nI t).map cI)),(71,.int .i64 t.length),(72,.int .i64 j),(14,.int .i64 b),(15,.int .i64 (bV q.2)),(78,(slL (nI (preN x.blocks.list b))).av cI),(79,.int .i64 (preN x.blocks.list b).length),(80,.int .i64 q.1)]) (fun q g=>q.1≤(preN x.blocks.list b).length∧OfAt x.blocks.list h0 aq rq (nV y) (odN x.blocks.list) g∧g.get wq=some (.cells q5I (nC (nV nx)))∧wq<g.nx∧(∀r,Best y (ordN x.blocks.list) ((preN x.blocks.list b).drop q.1) q.2 r→Best y (ordN x.blocks.list) (preN x.blocks.list b) none r)∧(∀c,q.2=some c→(y c).isSome=true)) (fun q=>(preN x.blocks.list b).length-q.1) ((0,none)) ?_ ?_ ?_
        focus(repeat' first|exact q0h|refine q0e (by simp[bV]) ?_)
        ·exact⟨Y0E _,hA,hw,hwn,fun r h=>by simpa using h,fun c hc=>by cases hc⟩
        clear hA hw hwn hpre g
        rintro⟨i,o⟩ g ⟨hi,hA,hw,hwn,hbest,hoset⟩
        dsimp only at hi hbest hoset⊢
        refine zR0 ?_
        refine Y2w hP rfl (fun hc=>Y2s ?_) (fun hc=>Y2t ?_)
        · simp at hc
          obtain⟨a,ha⟩:=q0b hc
          have hal:=preN_lt (Y0N ha)
          have ha16:a<16:=by omega
          have had:=Y2G ha16
          have hai:(nI (preN x.blocks.list b))[i]? =some (a:Int):=by rw[nI,Y0R,ha];rfl
          have hil:=Y2G (show i<(nI (preN x.blocks.list b)).length by rw[hpnl];exact hc)
          have hpv2:=q0j (e:=cI) (x:=slL (nI (preN x.blocks.list b))) (by rw[q0l,hpnl];omega)
          rw[q0l]at hpv2
          have hgr:g.get rq=_:=hA.rul
          have hna:=z3y (nV y) (odN x.blocks.list) ha16
          have hdr:(preN x.blocks.list b).drop i=a::(preN x.blocks.list b).drop (i+1):=by
            obtain⟨h1,h2⟩:=Y0m.1 ha
            rw[Y3u h1,h2]
          rw[hdr]at hbest
          dsimp only[q2L]at hgr
          dsimp only[q0a]
          cases hya:y a with
          | none=>
            have hnv:nV y a= -1:=by simp[nV,hya]
            refine zA0f (zc @hai (zc @hil (zc @hpv2 (zc @had (zc @hgr (zc @hna @hnv)))))) ?_
            refine⟨(i+1,o),by dsimp only;omega,trivial,?_,by dsimp only;omega,hA,hw,hwn,fun r h=>hbest r (.skip hya h),hoset⟩
            exact zLf (zc @hpv2 (w64s (show i<9000000000000000000 by omega)))
          | some n=>
            have hnv:nV y a=n:=by simp[nV,hya]
            have hnd:decide ((n:Int)= -1)=false:=Y2F (by omega)
            have has:(y a).isSome=true:=by rw[hya];rfl
            cases o with
            | none=>
              repeat' first|refine Y2v ?_|refine Y2x ?_|refine Y2I hP rfl ?_|refine Y2J hP rfl ?_|(refine Y2W hP (by simp[hai,hil,hpv2,had,hgr,hna,hnv,hnd,bV]<;>rfl) ?_;dsimp only[goK])|simp only[q0a,q0c,q0d,↓reduceIte,Nat.reduceEqDiff,reduceCtorEq]
              refine⟨(i+1,some a),by dsimp only;omega,trivial,?_,by dsimp only;omega,hA,hw,hwn,fun r h=>hbest r (.first has h),fun c hc=>by cases hc;exact has⟩
              repeat' first|exact q0h|refine q0e (by simp[hpv2,w64s (show i<9000000000000000000 by omega),bV]) ?_
            | some c=>
              have hcs:=hoset c rfl
              have hcd:decide ((c:Int)= -1)=false:=Y2F (by omega)
              obtain⟨m,hm,hms⟩:=x6q O hMy.turns hcs has
              have e3:=fun h (hh:RulAt rq (nV y) (odN x.blocks.list) h) (hn:rq<h.nx)=>meet_mem hP hX (od:=odN x.blocks.list) (ord:=ordN x.blocks.list) h hh hn hMy.turns.set (fun z hz=>by
                obtain⟨d,hd⟩:=Y0W.1 hz
                have hzm:=hMy.turns.reach z d hd
                have:=O.low z hzm
                exact⟨by omega,Y0e hzm⟩) (fun z d hz h0=>hMy.turns.fall O.tree h0 hz) O.zero c a m hcs has hm
              repeat' first|refine Y2v ?_|refine Y2x ?_|refine Y2J hP rfl ?_|(refine Y2W hP (by simp[hai,hil,hpv2,had,hgr,hna,hnv,hnd,hcd,bV]<;>rfl) ?_;dsimp only[goK])
              refine Y3y hP z4Z (e3 g hA.rul hA.nx) (by simp) rfl rfl rfl rfl (fun u g2 hO=> ?_)
              obtain⟨rfl,hsame⟩:=hO
              refine Y2X hP (by simp<;>rfl) ?_
              try dsimp only[goK]
              refine zA0 ?_
              refine⟨(i+1,some m),by dsimp only;omega,trivial,?_,by dsimp only;omega,hA.same hsame,(hsame.get wq).trans hw,by rw[hsame.nx];exact hwn,fun r h=>hbest r (.more has hm h),fun c hc=>by cases hc;exact hms⟩
              repeat' first|exact q0h|refine q0e (by simp[hpv2,w64s (show i<9000000000000000000 by omega),bV]) ?_
        · simp at hc
          obtain rfl:i=(preN x.blocks.list b).length:=by omega
          rw[List.drop_length]at hbest
          have hB:=hbest o (.nil o)
          obtain⟨m,hom,hM2⟩:=hMy.turn O.tree O.zero O.inj O.hR hbm hbo (by omega) (fun a ha=>x0Q hto (O.low a ha)) hB
          subst hom
          have hS:=z9o (gl:=gl) (K:=K) hA.rul hb16 (m:Int)
          dsimp only[q0x,q2L]at hS
          dsimp only[q0a]
          repeat' first|(refine Y2W hP (by simp[hbd,hS, -storeAt,bV]<;>rfl) ?_;dsimp only[goK])|simp only[q0a,q0c,q0d,↓reduceIte,Nat.reduceEqDiff,reduceCtorEq]
          have hA2:=(hA.put (fun z=>if z=b then(m:Int)else nV y z) (odN x.blocks.list) (m:=g.put rq (.cells 227 (nC (fun z=>if z=b then(m:Int)else nV y z)++nC (odN x.blocks.list)))) (fun _=>rfl) rfl).ext (f':=nV (upd y b m)) (od':=odN x.blocks.list) (fun z _=>by unfold nV upd;by_cases h:z=b<;>simp[h]) fun _ _=>rfl
          have htk2:t.take (j+1)=t.take j++[b]:=by rw[Y3L,hb];rfl
          refine⟨(j+1,upd y b m),by dsimp only;omega,trivial,?_,by dsimp only;omega,hA2,by rw[get_put,Y0c (by omega)];exact hw,hwn,hM2,by rw[htk2];exact .snoc hRy hB⟩
          exact zLf (w64s (show j<9000000000000000000 by omega))
      · simp at hc
        obtain rfl:j=t.length:=by omega
        rw[Y3n]at hRy
        have hMe:Mid (q6O (toN x.blocks.list)) (·∈q0L x.blocks.list) par (ordN x.blocks.list) k (q0L x.blocks.list).length y:=by rw[hol2];exact hMy
        obtain⟨bb,hbb,hbi⟩:=eq_arr (gl:=gl) hV.arr (nV nx) (nV y)
        dsimp only[q5I]at hbb hw
        have hgr:g.get rq=_:=hA.rul
        have htk:(nC (nV y)++nC (odN x.blocks.list)).take 16=nC (nV y):=by rw[Y3w (by rw[q7r];omega),Y2Q (by rw[q7r];omega)]
        have hln:(nC (nV y)++nC (odN x.blocks.list)).length=32:=by simp[nC]
        have hnl16:=q7r (nV nx)
        have htk3:(nC (nV nx)).take 16=nC (nV nx):=Y2Q (by rw[q7r];omega)
        have hrn:=hA.nx
        dsimp only[q2L]at hgr
        have hnone:∀(z:Nat→Option Nat),Turns (q6O (toN x.blocks.list)) (·∈q0L x.blocks.list) par (ordN x.blocks.list) z→∀v,16≤v→z v=none:=fun z hz v hv=>by
          cases hzv:z v with
          |none=>rfl
          |some d=>have:=O.low v (hz.reach v d hzv);omega
        have heq:(∀v,v<16→nV nx v=nV y v)→y=nx:=fun h=>funext fun v=>by
          by_cases hv:v<16
          ·exact(nV_inj (h v hv)).symm
          ·rw[hnone y hMy.turns v (by omega),hnone nx hM.turns v (by omega)]
        dsimp only[q0a]
        repeat first|refine Y2v ?_
        refine Y3c hP [] (fun e he=>by cases he) (by kernel_rfl) (by simp[hX,hgr,hw,htk,hln,hnl16,htk3,hbb,q2r,sub,(show¬g.nx≤rq by omega),(show¬g.nx≤wq by omega)]<;>rfl) ?_
        repeat' (refine q5L (fun hb=> ?_) (fun hb=> ?_)<;>(try simp only[Y3e,Y1k,Y3f]at hb)<;>refine z6v (by simp[hb,hX,hgr,hw,htk,hln,hnl16,htk3,hbb,q2r,sub,(show¬g.nx≤rq by omega),(show¬g.nx≤wq by omega)]<;>rfl) ?_)
        all_goals dsimp only[okQ,q0a]
        cases bb with
        | true=>
          have hyx:=heq (hbi.1 rfl)
          subst hyx
          obtain⟨_,hfx⟩:=hRy.fixed (by have:=O.nodup;rw[O.head]at this;exact(List.nodup_cons.1 this).2) fun _ _=>rfl
          have hall:∀z,z∈q0L x.blocks.list→(y z).isSome=true:=fun z hz=>hMe.early z hz (.inl (O.lt z hz))
          have hrul:=fun{z r:Nat} (hz:∃l,Way (q6O (toN x.blocks.list)) l z)=>hMy.done (r:=r) hall O.tree O.zero O.hR (preds:=preN x.blocks.list) (fun a b ha=>x0Q hto (O.low a ha)) (fun b hb hb0=>hfx b (by rw[O.head]at hb;exact(Y2k.1 hb).resolve_left hb0)) O.closed hz
          have hfin:RulersOk x.blocks.list y:=⟨hMy.turns.zero,hMy.turns.set,fun b c hb hb0=>hMy.turns.fall O.tree hb0 hb,fun b=>⟨fun hb=>by obtain⟨c,hc⟩:=Y0W.1 hb;exact hMy.turns.reach b c hc,hall b⟩,fun b hb r=>hrul ((O.way b).1 hb)⟩
          refine zA0 ?_
          exact Y2u ⟨trivial,.inr rfl,_,_,rfl,rfl,rq,y,rfl,hA.nx,hA.wid.z,hA.z.rul,hfin⟩
        | false=>
          have hne:y≠nx:=fun e=>by
            have:=hbi.2 fun v _=>by rw[e]
            cases this
          have hk16:k<17:=by
            by_cases h:k<17
            ·exact h
            ·exact absurd (hM.stable hMe O.tree O.inj O.hR (fun z hz=>(O.way z).1 hz) (N:=x.blocks.list.length) O.low (by omega) (by omega) O.zero) hne
          refine zA0 ?_
          refine⟨(k+1,y),by dsimp only;omega,trivial,?_,hA.z,hMe.next O.lt O.hR O.inj O.zero O.mem0,by dsimp only;omega⟩
          exact zL
end Go.Ax
set_option maxRecDepth 20000
noncomputable section
namespace Go.Ax
open Go.Proofs
attribute [local irreducible] TW TO CallsT PureC
variable{F:Nat→Option Obj}{gl:Nat→AV}{K:Knob}{S S':Nat→Prop}
theorem x2c(hV:Env2 F gl K){p:LProg}{f:Nat}{x:LFunc}(H:GateAt p f x)(h0:Hp):
  CallsT Tryz.prog F h0 (fun v g=>∃rq nx,v= .tup [.ptr rq 0,.int .i64 0]∧rq<g.nx∧Wid h0 g∧RulAt rq (nV nx) (odN x.blocks.list) g∧RulersOk x.blocks.list nx) z2P [.agg p.cells,.int .i64 f,.int .i64 0]:=by
 have hP:=hV.env.P
 have hX:=hV.env.X
 obtain⟨hs1,hs2,hs3⟩:=H.fn.small
 have hto:=q4d H.fn.ok
 have hf:=H.fn.at_
 have hfl:=Y2G (Y0m.1 hf).1
 have hfv:=q0j (e:=LFunc.cells) (show 0<p.funcs.list.length by have:=(Y0m.1 hf).1;omega)
 have e1:=z8Q hV.env H
 have hle:=z7e (l:=x.blocks.list) (k:=x.blocks.list.length)
 have e2:=q4r hP (slL (q1d x.blocks.list x.blocks.list.length)) 0 (by rw[q0l];omega)
 rw[q0l]at e2
 have hany:((q1d x.blocks.list x.blocks.list.length).any fun y=>decide ((0:Int)=y))=true:=by
  rw[Y2m]
  exact⟨0,z5s.2 ⟨0,rfl,by omega,(z3M (by omega) hto 0).2 ⟨_,.start⟩⟩,rfl⟩
 rw[hany]at e2
 have e3:=of_mem hV H
 simp only[LProg.cells,hfv]at e1 e3
 have hb1:decide (x.blocks.list.length=0)=false:=Y2F (by omega)
 have hb0:x.blocks.list≠ []:=fun e=>by rw[e]at hs2;simp at hs2
 refine Y2y hP q0f x4G rfl rfl ?_
 refine zR2f (zc @hf (zc @hfl (zc @hfv (zc @hb1 @hb0)))) z5E e1 q0D e2 ?_
 refine Y3y hP I_dom_of (e3 _) (by simp) rfl rfl rfl rfl (fun v g hO=> ?_)
 obtain⟨rq,nx,rfl,hn,hw,hr,hok⟩:=hO
 refine Y2X hP (by simp<;>rfl) ?_
 try dsimp only[goK]
 refine zA0 ?_
 exact⟨rq,nx,rfl,hn,((Y2M h0).new _).trans hw,hr,hok⟩
def rulL(nx:Nat→Option Nat)(n:Nat):List Int:=((List.range n).map (nV nx)).set 0 (-1)
set_option maxHeartbeats 2000000 in
theorem All_mem(hV:Env2 F gl K){p:LProg}{f:Nat}{x:LFunc}(H:GateAt p f x)(h0:Hp):
  CallsT Tryz.prog F h0 (fun v g=>Wid h0 g∧∃nx,v= .tup [(Sl.mk (rulL nx x.blocks.list.length)).av cI,.int .i64 0]∧RulersOk x.blocks.list nx) z6Y [.agg p.cells,.int .i64 f]:=by
 have hP:=hV.env.P
 have hX:=hV.env.X
 obtain⟨hs1,hs2,hs3⟩:=H.fn.small
 have hf:=H.fn.at_
 have hfl:=Y2G (Y0m.1 hf).1
 have hfv:=q0j (e:=LFunc.cells) (show 0<p.funcs.list.length by have:=(Y0m.1 hf).1;omega)
 have e1:=x2c hV H
 simp only[LProg.cells,hfv]at e1
 refine CallsT.frz (O:=fun v g=>∃nx u,v= .tup [u,.int .i64 0]∧Wid h0 g∧RulersOk x.blocks.list nx∧Own 1 q0x h0.nx g u ((rulL nx x.blocks.list.length).map cI)) ?_ ?_
 ·refine Y2y hP q0f E_dom_All rfl rfl ?_
  refine zR0f @hfv ?_
  refine Y3y hP x4u (e1 _) (by simp) rfl rfl rfl rfl (fun v g hO=> ?_)
  obtain⟨rq,nx,rfl,hn,hw,hr,hok⟩:=hO
  refine Y2X hP (by simp<;>rfl) ?_
  try dsimp only[goK]
  have hg0:g.get h0.nx=some (.cells q0o [p.types.av LType.cells,.isl (p.funcs.list.map LFunc.cells)]):=by
   rw[hw.get h0.nx (by simp)];simp
  dsimp only[q0o]at hg0
  refine zR0f (zc @hg0 (zc @hf (zc @hfl @hfv))) ?_
  have hgn:=hw.nx
  simp only[nx_new]at hgn
  refine Y2H (fun q:Nat×AV=>[(4,q.2),(5,.int .i64 0),(6,.ptr rq 0),(23,.int .i64 x.blocks.list.length),(24,.int .i64 q.1)]) (fun q m=>q.1≤x.blocks.list.length∧WidB g.nx g m∧Own 1 q0x g.nx m q.2 (((List.range q.1).map (nV nx)).map cI)) (fun q=>x.blocks.list.length-q.1) ((0,.nilsl)) ?_ ?_ ?_
  focus(repeat' first|exact q0h|refine q0e (by simp) ?_)
  ·exact⟨Y0E _,.refl _ _,.nil⟩
  rintro⟨i,v⟩ m ⟨hi,hwm,hown⟩
  dsimp only at hi hwm hown⊢
  have hmr:RulAt rq (nV nx) (odN x.blocks.list) m:=(hwm.get rq hn).trans hr
  have hgm:m.get rq=_:=hmr
  dsimp only[q2L]at hgm
  have hmn:=hwm.nx
  refine zR0 ?_
  refine Y2w hP rfl (fun hc=>Y2s ?_) (fun hc=>Y2t ?_)
  ·simp at hc
   have hi16:i<16:=by omega
   have hid:=Y2G hi16
   have hnv:=z3y (nV nx) (odN x.blocks.list) hi16
   obtain⟨v',h',q1,q2,q3,q4⟩:=hown.push (t:=q0m) (row:=[.int .i64 (nV nx i)]) (q1a (gl:=gl) (K:=K)) q1v rfl rfl (by simp;omega) hmn
   dsimp only[q0m,q0x]at q1
   have hrows:((List.range (i+1)).map (nV nx)).map cI=((List.range i).map (nV nx)).map cI++[[.int .i64 (nV nx i)]]:=by rw[Y3C];simp
   dsimp only[q0a]
   refine zA0f (zc @hgm (zc @hid (zc @hnv @q1))) ?_
   refine⟨(i+1,v'),by dsimp only;omega,trivial,?_,by dsimp only;omega,hwm.trans q3,by rw[hrows];exact q2⟩
   exact zLf (w64s (show i<9000000000000000000 by omega))
  ·simp at hc
   obtain rfl:i=x.blocks.list.length:=by omega
   dsimp only[q0a]
   rcases hown with⟨_,h2⟩|⟨hne,r,hr1,hr2,rfl,hgr⟩
   ·have h3:=Y1K List.length h2
    rw[Y1q,Y1q,Y3H,Y2j]at h3
    omega
   have hln:(((List.range x.blocks.list.length).map (nV nx)).map cI).length=x.blocks.list.length:=by simp
   rw[hln]
   have hra:(((List.range x.blocks.list.length).map (nV nx)).map cI)[0]? =some [.int .i64 (nV nx 0)]:=by rw[Y0R,Y0R,Y3Q (by omega)];rfl
   have hSt:=z4B (h:=m) (C:=Ctx.of Tryz.prog gl K) (v:=.int .i64 (-1)) hgr q1v hra rfl rfl (by omega)
   have hsw:(((List.range x.blocks.list.length).map (nV nx)).map cI).set 0 ([AV.int .i64 (nV nx 0)].set 0 (.int .i64 (-1)))=(rulL nx x.blocks.list.length).map cI:=by rw[rulL,List.map_set];rfl
   rw[hsw]at hSt
   simp only[Y1t,q0x]at hSt
   have hnd:=Y2G (show 0<x.blocks.list.length by omega)
   repeat' first|refine Y2v ?_|(refine Y2W hP (by simp[natZ,hSt, -storeAt,sz1,hnd]<;>rfl) ?_;dsimp only[goK])|simp only[q0a,q0c,q0d,↓reduceIte,Nat.reduceEqDiff,reduceCtorEq]
   refine Y2u ⟨.inr rfl,_,_,rfl,rfl,nx,_,rfl,?_,hok,?_⟩
   ·refine⟨by show h0.nx≤m.nx;omega,fun s hs=> ?_⟩
    have hsr:¬r=s:=by omega
    have hs2:s<g.nx:=by omega
    have hs3:¬h0.nx=s:=by omega
    rw[get_put,Y0c hsr,hwm.get s hs2,hw.get s (by simp;omega),get_new,Y0c hs3]
   ·have hl2:((rulL nx x.blocks.list.length).map cI).length=x.blocks.list.length:=by simp[rulL]
    refine .inr ⟨fun e=>by rw[e]at hl2;simp at hl2;omega,r,by omega,hr2,by rw[hl2],by rw[get_put,Y0e rfl]⟩
 ·rintro v g ⟨nx,u,rfl,hw,hok,ho⟩
  refine⟨fun s=>h0.nx≤s,5,.tup [(Sl.mk (rulL nx x.blocks.list.length)).av cI,.int .i64 0],?_,⟨by show h0.nx≤g.nx;exact hw.nx,fun s hs=>by rw[z8m (by omega)];exact hw.get s hs⟩,nx,rfl,hok⟩
  have h1:Own 1 q0x h0.nx (g.only fun s=>h0.nx≤s) u ((rulL nx x.blocks.list.length).map cI):=ho.same (Y0u _) fun s hs _=>z3x (S:=fun s=>h0.nx≤s) (by omega)
  have h2:=h1.slL
  have h3:(slL (rulL nx x.blocks.list.length)).av cI=(Sl.mk (rulL nx x.blocks.list.length)).av cI:=by
   have:(rulL nx x.blocks.list.length).length=x.blocks.list.length:=by simp[rulL]
   cases hl:rulL nx x.blocks.list.length with
   |nil=>rw[hl]at this;simp at this;omega
   |cons a l=>rfl
  rw[h3]at h2
  unfold frzV
  simp only[mapO,h2]
  rfl
end Go.Ax
set_option maxRecDepth 20000
noncomputable section
namespace Go.Ax
open Go.Proofs
variable{C:Ctx}{h g:Hp}
def OwnZ(es:Nat)(eT:TypeId)(b:Nat)(h:Hp)(v:AV)(rows:List (List AV)):Prop:=
 (v= .nilsl∧rows= [])∨∃q x,b≤q∧q<h.nx∧v= .sl q 0 rows.length rows.length es x∧h.get q=some (.cells eT rows.flatten)
theorem OwnZ.same{es b:Nat}{eT:TypeId}{v:AV}{rows:List (List AV)}(H:OwnZ es eT b h v rows)(hn:h.nx≤g.nx)(hg:∀r,b≤r→r<h.nx→g.get r=h.get r):OwnZ es eT b g v rows:=by
 rcases H with H|⟨q,x,h2,h3,h4,h5⟩
 ·exact .inl H
 ·exact .inr ⟨q,x,h2,by omega,h4,(hg q h2 h3).trans h5⟩
theorem OwnZ.push{es:Nat}{t eT:TypeId}{b:Nat}{v:AV}{rows:List (List AV)}{row:List AV}(ht:slT C t eT es=true)(ho:OwnZ es eT b h v rows)(hrows:∀c∈rows,c.length=es)(hrow:row.length=es)(hcell:row.all q1f=true)(hlen:rows.length<1000000)(hb:b≤h.nx):
    ∃q h',q0Z C t t v (.sl h.nx 0 1 1 es true) (h.new (.cells eT row))=some (.sl q 0 (rows.length+1) (rows.length+1) es false,h')∧q=h.nx+1∧h'.get q=some (.cells eT (rows++[row]).flatten)∧h'.nx=h.nx+2∧∀r,r<h.nx→(∀n x,v≠ .sl r 0 n n es x)→h'.get r=h.get r:=by
  unfold slT at ht
  split at ht
  case h_2=>cases ht
  rename_i e size isAgg zero zeroOk bytes comparable zv y hti hy
  simp only[Y1X,Y2h]at ht
  obtain⟨rfl,hys,hz,hby⟩:=ht
  have hsrc:q0N (h.new (.cells e row)) y.size 1 (.sl h.nx 0 1 1 es true)=some row:=by
    unfold q0N
    simp[get_new,sub,hys,←hrow]
  have h1:Nat.ble y.bytes 1000000=true:=Y1x hby
  have h2:Nat.beq row.length (Nat.mul 1 y.size)=true:=by rw[hrow,hys,Nat.mul_eq,Nat.one_mul,Y1o]
  have e1:Nat.beq es y.size=true:=by rw[hys,Y1o]
  have e2:Nat.beq e e=true:=Y1o _
  rcases ho with⟨rfl,rfl⟩|⟨q,x,hbq,hqn,rfl,hq⟩
  · refine⟨h.nx+1,(h.new (.cells e row)).new (.cells e row),?_,rfl,by simp[get_new,nx_new],rfl,fun r hr _=>by rw[get_new,Y0c (by show¬h.nx+1=r;omega),get_new,Y0c (by omega)]⟩
    unfold q0Z
    simp only[hti,hy,lenA,z2r,hsrc,hcell,hz,h1,h2]
    simp[hys]
  have hg':(h.new (.cells e row)).get q=some (.cells e rows.flatten):=by rw[get_new,Y0c (by omega)];exact hq
  have hfl:=q5K hrows
  have e3:Nat.ble (Nat.add 0 (Nat.mul rows.length es)) rows.flatten.length=true:=Y1x (by rw[hfl];simp)
  have e4:Nat.ble (Nat.add rows.length 1) 1000000=true:=Y1x (by simp;omega)
  have e5:Nat.ble (Nat.add rows.length 1) rows.length=false:=by
    cases hc:Nat.ble (Nat.add rows.length 1) rows.length with
    |false=>rfl
    |true=>have:=Y0J hc;simp at this;omega
  have e6:Nat.ble (Nat.mul rows.length es) rows.flatten.length=true:=Y1x (by rw[hfl];exact Y0u _)
  have e7:rows.flatten.take (Nat.mul rows.length es)=rows.flatten:=Y2Q (by rw[hfl];exact Y0u _)
  cases x with
  | true=>
    refine⟨h.nx+1,(h.new (.cells e row)).new (.cells e (rows.flatten++row)),?_,rfl,by simp[get_new,nx_new],rfl,fun r hr _=>by rw[get_new,Y0c (by show¬h.nx+1=r;omega),get_new,Y0c (by omega)]⟩
    unfold q0Z
    simp only[hti,hy,lenA,z2r,hsrc,hcell,hz,h1,h2,hg',e1,e3,e4,e5,Y1Q,e7]
    rfl
  | false=>
    refine⟨h.nx+1,((h.new (.cells e row)).put q .dead).new (.cells e (rows.flatten++row)),?_,rfl,by simp[get_new,nx_new,nx_put],rfl,fun r hr hv=> ?_⟩
    · unfold q0Z
      simp only[hti,hy,lenA,z2r,hsrc,hcell,hz,h1,h2,hg',e1,e2,e3,e4,e5,e6,Y1Q,e7]
      rfl
    · have:¬q=r:=fun e=>by subst e;exact hv _ _ rfl
      rw[get_new,Y0c (by show¬h.nx+1=r;omega),get_put,Y0c this,get_new,Y0c (by omega)]
theorem z7r{es:Nat}(hes:es≠0):∀{rows:List (List AV)},(∀c∈rows,c.length=es)→chunks es rows.length rows.flatten=rows
  |[],_=>rfl
  | c::r,h=>by
    have hc:=h c Y0T
    show(c++r.flatten).take es::chunks es r.length ((c++r.flatten).drop es)=_
    rw[←hc,List.take_left,List.drop_left,hc,z7r hes fun x hx=>h x (Y0U _ hx)]
theorem OwnZ.frz{es b k:Nat}{eT:TypeId}{v:AV}{rows rows':List (List AV)}(hes:es≠0)(ho:OwnZ es eT b h v rows)(hrows:∀c∈rows,c.length=es)(hf:mapO (mapO (frzV k h)) rows=some rows'):∃u,frzV (k+1) h v=some u∧(u= .isl rows'∨(rows'= []∧u= .nilsl)):=by
 rcases ho with⟨rfl,rfl⟩|⟨q,x,hbq,hqn,rfl,hq⟩
 ·cases hf
  exact⟨_,rfl,.inr ⟨rfl,rfl⟩⟩
 ·refine⟨_,?_,.inl rfl⟩
  have hb:Nat.ble (Nat.add 0 (Nat.mul rows.length es)) rows.flatten.length=true:=Y1x (by rw[q5K hrows];simp)
  unfold frzV
  dsimp only
  rw[hq]
  dsimp only
  rw[hb,Y1Q,z7r hes hrows,hf]
  rfl
end Go.Ax
