import Derived.Test.YtdfjkochhifpmaaGreatDoorV00
import Derived.WalkKit
import Derived.Great.FillDense
import Derived.Great.BuildSlice
import Derived.ChangeKeysEq
set_option linter.unusedSimpArgs false
set_option linter.unusedVariables false
namespace Go.Ax
def AObj.live:AObj→Bool
 | .dead=>false
 |_=>true
structure TRel(P:Program)(F:Nat→Option Obj)(m:Loc)(tm:Tr AV)(n:Nat)(a:Array Value):Prop where
 size:a.size=n
 at':∀t,t<n→VRel P F m (tget tm t) (a.getD t Go.undef)
 out:∀t,n≤t→tget tm t= .tup []
structure ERel(P:Program)(F:Nat→Option Obj)(m:Loc)(x:AV×AV×Nat)(e:MapEntry):Prop where
 key:VRel P F m x.1 e.key
 val:VRel P F m x.2.1 e.val
 born:x.2.2=e.born
def ORel(P:Program)(F:Nat→Option Obj)(m:Loc)(z:Nat):AObj→Option Obj→Prop
 | .cells e cs,ob=>∃arr,ob=some (.cells arr e (0,0))∧arr.size=z∧cs.length≤z∧∀(i:Nat) (x:AV) (y:Value),cs[i]? =some x→arr[i]? =some y→VRel P F m x y
 | .map es clock,ob=>∃ces:Array MapEntry,ob=some (.map ces clock)∧es.length=ces.size∧∀(i:Nat) (x:AV×AV×Nat) (y:MapEntry),es[i]? =some x→ces[i]? =some y→ERel P F m x y
 | .siter s pos,ob=>∃b:ByteArray,ob=some (.stringIter b pos)∧b.data.toList.map UInt8.toNat=s
 | .miter q since seen last,ob=>∃b y,m q=some (b,y)∧ob=some (.mapIter (some b) since seen.toArray last)
 | .loop st pend tm n ps asn body ds,ob=>∃fn tmps cds zd,ob=some (.loop {state:=st,pending:=pend,fn:=fn,tmps:=tmps,params:=ps.toArray,assign:=asn,body:=body,defers:=cds})∧TRel P F m tm n tmps∧m ds=some (cds,zd)
 | .defd ds,ob=>(ds=some []∧ob=some (.deferred (some [])))∨(ds=none∧ob=some (.deferred none))
 | .dead,_=>True
structure HRel(P:Program)(F:Nat→Option Obj)(m:Loc)(h:Hp)(w:World):Prop where
 obj:∀r o b z,h.get r=some o→m r=some (b,z)→ORel P F m z o w.heap[b]?
 inj:∀r s o q b y z,h.get r=some o→o.live=true→h.get s=some q→q.live=true→m r=some (b,y)→m s=some (b,z)→r=s
 out:∀r o b z,h.get r=some o→o.live=true→m r=some (b,z)→F b=none∧m.fz b=none
 frz:∀b o,Fz F m b o→w.heap[b]? =some o
 wf:∀r,h.nx≤r→h.get r=none
structure SameOut(w w':World):Prop where
 os:w'.os=w.os
 tape:w'.tape=w.tape
 output:w'.output=w.output
theorem SameOut.refl(w:World):SameOut w w:=⟨rfl,rfl,rfl⟩
abbrev Y0r:=@SameOut.refl
theorem SameOut.trans{a b c:World}(h:SameOut a b)(k:SameOut b c):SameOut a c:=⟨k.os.trans h.os,k.tape.trans h.tape,k.output.trans h.output⟩
structure Step(P:Program)(F:Nat→Option Obj)(m:Loc)(h h':Hp)(w w':World)(m':Loc):Prop where
 le:Loc.le m m'
 new:∀r c,m' r=some c→m r=none→h.nx≤r∧r<h'.nx
 rel:HRel P F m' h' w'
 same:SameOut w w'
 size:w.heap.size≤w'.heap.size
 old:∀b,b<w.heap.size→(∀r o z,h.get r=some o→o.live=true→m r≠some (b,z))→w'.heap[b]? =w.heap[b]?
 nx:h.nx≤h'.nx
 keep:∀r o' c,h'.get r=some o'→o'.live=true→m r=some c→∃o,h.get r=some o∧o.live=true
 mnew:∀r b z,m' r=some (b,z)→m r=none→(∃o,h'.get r=some o∧o.live=true)→w.heap.size≤b∨∃s o y,h.get s=some o∧o.live=true∧m s=some (b,y)
 fnew:∀b o,m'.fz b=some o→m.fz b=some o∨w.heap.size≤b∨∃s q y,h.get s=some q∧q.live=true∧m s=some (b,y)
section
variable{P:Program}{F:Nat→Option Obj}{m m':Loc}
theorem TRel.mono(hm:Loc.le m m'){tm:Tr AV}{n:Nat}{a:Array Value}(h:TRel P F m tm n a):TRel P F m' tm n a:=⟨h.size,fun t ht=>(h.at' t ht).mono hm,h.out⟩
theorem ORel.mono(hm:Loc.le m m'){z:Nat}{o:AObj}{ob:Option Obj}(h:ORel P F m z o ob):ORel P F m' z o ob:=by
 cases o with
 |cells e cs=>obtain⟨arr,h1,h2,h3,h4⟩:=h;exact⟨arr,h1,h2,h3,fun i x y hx hy=>(h4 i x y hx hy).mono hm⟩
 |map es clock=>obtain⟨ces,h1,h2,h3⟩:=h;exact⟨ces,h1,h2,fun i x y hx hy=>⟨(h3 i x y hx hy).key.mono hm,(h3 i x y hx hy).val.mono hm,(h3 i x y hx hy).born⟩⟩
 |siter s pos=>exact h
 |miter q since seen last=>obtain⟨b,y,h1,h2⟩:=h;exact⟨b,y,hm _ _ h1,h2⟩
 |loop st pend tm n ps asn body ds=>obtain⟨fn,tmps,cds,zd,h1,h2,h3⟩:=h;exact⟨fn,tmps,cds,zd,h1,h2.mono hm,hm _ _ h3⟩
 |defd ds=>exact h
 |dead=>trivial
theorem ORel.some{z:Nat}{o:AObj}{ob:Option Obj}(h:ORel P F m z o ob)(hl:o.live=true):∃x,ob=some x:=by
 cases o with
 |cells e cs=>obtain⟨arr,h1,_⟩:=h;exact⟨_,h1⟩
 |map es clock=>obtain⟨ces,h1,_⟩:=h;exact⟨_,h1⟩
 |siter s pos=>obtain⟨b,h1,_⟩:=h;exact⟨_,h1⟩
 |miter q since seen last=>obtain⟨_,_,_,h1⟩:=h;exact⟨_,h1⟩
 |loop st pend tm n ps asn body ds=>obtain⟨fn,tmps,cds,zd,h1,_⟩:=h;exact⟨_,h1⟩
 |defd ds=>rcases h with⟨_,h⟩|⟨_,h⟩<;>exact⟨_,h⟩
 |dead=>cases hl
theorem HRel.lt{h:Hp}{w:World}(hr:HRel P F m h w){r:Nat}{o:AObj}{b z:Nat}(hg:h.get r=some o)(hl:o.live=true)(hm:m r=some (b,z)):b<w.heap.size:=by
 obtain⟨x,hx⟩:=(hr.obj r o b z hg hm).some hl
 exact(Y0s.1 hx).1
theorem HRel.flt{h:Hp}{w:World}(hr:HRel P F m h w){b:Nat}{o:Obj}(hf:Fz F m b o):b<w.heap.size:=(Y0s.1 (hr.frz b o hf)).1
theorem Step.refl{h:Hp}{w w':World}(hr:HRel P F m h w)(hh:w'.heap=w.heap)(hs:SameOut w w'):Step P F m h h w w' m where
 le:=Y0h m
 new r c hc hn:=by rw[hn]at hc;cases hc
 rel:=⟨fun r o b z hg hm=>by rw[hh];exact hr.obj r o b z hg hm,hr.inj,hr.out,fun b o hb=>by rw[hh];exact hr.frz b o hb,hr.wf⟩
 same:=hs
 size:=by rw[hh];exact Y0u _
 old b _ _:=by rw[hh]
 nx:=Y0u _
 keep r o' c hg hl _:=⟨o',hg,hl⟩
 mnew r b z hc hn _:=by rw[hn]at hc;cases hc
 fnew b o h:=.inl h
abbrev Y0t:=@Step.refl
def Loc.put(m:Loc)(r b z:Nat):Loc:=⟨fun s=>if s=r then some (b,z)else m s,m.fz⟩
theorem Loc.put_same(m:Loc)(r b z:Nat):m.put r b z r=some (b,z):=Y0e rfl
abbrev Y0v:=@Loc.put_same
theorem Loc.put_ne(m:Loc){r s:Nat}(b z:Nat)(h:s≠r):m.put r b z s=m s:=Y0c h
abbrev Y0w:=@Loc.put_ne
theorem Loc.le_put{r b z:Nat}(hn:m r=none):Loc.le m (m.put r b z):=⟨fun s c hs=>by
 by_cases h:s=r
 ·subst h;rw[hn]at hs;cases hs
 ·rw[Y0w m _ _ h];exact hs,fun _ _ h=>h⟩
theorem Hp.get_new(h:Hp)(o:AObj)(r:Nat):(h.new o).get r=if h.nx=r then some o else h.get r:=by
 show(h.m.set h.nx o).get r=_
 rw[Tr.get_set];rfl
abbrev Y0x:=@Hp.get_new
theorem Hp.get_put(h:Hp)(s:Nat)(o:AObj)(r:Nat):(h.put s o).get r=if s=r then some o else h.get r:=by
 show(h.m.set s o).get r=_
 rw[Tr.get_set];rfl
abbrev Y0y:=@Hp.get_put
theorem Hp.nx_new(h:Hp)(o:AObj):(h.new o).nx=h.nx+1:=rfl
theorem Hp.nx_put(h:Hp)(s:Nat)(o:AObj):(h.put s o).nx=h.nx:=rfl
theorem Step.alloc{h:Hp}{w w':World}(hr:HRel P F m h w)(hn:m h.nx=none){o:AObj}{ob:Obj}{z:Nat}
  (hh:w'.heap=w.heap.push ob) (hs:SameOut w w') (ho:ORel P F (m.put h.nx w.heap.size z) z o (some ob)):
  Step P F m h (h.new o) w w' (m.put h.nx w.heap.size z):=by
 have hle:Loc.le m (m.put h.nx w.heap.size z):=Loc.le_put hn
 have hold:∀b,b<w.heap.size→w'.heap[b]? =w.heap[b]? :=fun b hb=>by rw[hh,Y0z,Y0c (by omega)]
 have hnew:w'.heap[w.heap.size]? =some ob:=by rw[hh,Y0z,Y0e rfl]
 have hF:F w.heap.size=none∧m.fz w.heap.size=none:=by
  constructor
  ·cases hf:F w.heap.size with
   |none=>rfl
   |some x=>have:=hr.flt (.inl hf);omega
  ·cases hf:m.fz w.heap.size with
   |none=>rfl
   |some x=>have:=hr.flt (.inr hf);omega
 refine⟨hle,?_,⟨?_,?_,?_,?_,fun r hr'=>by rw[Y0x,Y0c (by have:h.nx+1≤r:=hr';omega)];exact hr.wf r (Nat.le_of_succ_le hr')⟩,hs,(by rw[hh];simp),fun b hb _=>hold b hb,Y0A _,?_,?_,fun b o h=>.inl h⟩
 ·intro r c hc hn'
  by_cases h':r=h.nx
  ·subst h';exact⟨Y0u _,Y0B _⟩
  ·rw[Y0w m _ _ h',hn']at hc;cases hc
 ·intro r q b y hg hm
  rw[Y0x]at hg
  by_cases h':h.nx=r
  ·rw[Y0e h']at hg;cases hg
   subst h'
   rw[Y0v]at hm;cases hm
   rw[hnew];exact ho
  ·rw[Y0c h']at hg
   rw[Y0w m _ _ (fun e=>h' e.symm)]at hm
   have:=hr.obj r q b y hg hm
   by_cases hl:q.live=true
   ·rw[hold b (hr.lt hg hl hm)];exact this.mono hle
   ·cases q<;>first|trivial|exact absurd rfl hl
 ·intro r s q p b y y' hg hl hg' hl' hm hm'
  rw[Y0x]at hg hg'
  by_cases h1:h.nx=r
  ·by_cases h2:h.nx=s
   ·exact h1.symm.trans h2
   ·rw[Y0c h2]at hg'
    subst h1
    rw[Y0v]at hm;cases hm
    rw[Y0w m _ _ (fun e=>h2 e.symm)]at hm'
    have:=hr.lt hg' hl' hm';omega
  ·rw[Y0c h1]at hg
   rw[Y0w m _ _ (fun e=>h1 e.symm)]at hm
   by_cases h2:h.nx=s
   ·subst h2
    rw[Y0v]at hm';cases hm'
    have:=hr.lt hg hl hm;omega
   ·rw[Y0c h2]at hg'
    rw[Y0w m _ _ (fun e=>h2 e.symm)]at hm'
    exact hr.inj r s q p b y y' hg hl hg' hl' hm hm'
 ·intro r q b y hg hl hm
  rw[Y0x]at hg
  by_cases h':h.nx=r
  ·subst h'
   rw[Y0v]at hm;cases hm;exact hF
  ·rw[Y0c h']at hg
   rw[Y0w m _ _ (fun e=>h' e.symm)]at hm
   exact hr.out r q b y hg hl hm
 ·intro b x hb
  rw[hold b (hr.flt hb)];exact hr.frz b x hb
 ·intro r q c hg hl hm
  rw[Y0x]at hg
  by_cases h':h.nx=r
  ·subst h';rw[hn]at hm;cases hm
  ·rw[Y0c h']at hg;exact⟨q,hg,hl⟩
 ·intro r b y hc hn' _
  by_cases h':r=h.nx
  ·subst h';rw[Y0v]at hc;cases hc;exact .inl (Y0u _)
  ·rw[Y0w m _ _ h',hn']at hc;cases hc
theorem Step.put{h:Hp}{w w':World}(hr:HRel P F m h w){r:Nat}{q:AObj}{b z:Nat}(hg:h.get r=some q)(hq:q.live=true)(hm:m r=some (b,z)){o:AObj}{ob:Obj}
  (hat:w'.heap[b]? =some ob) (hne:∀c,c≠b→w'.heap[c]? =w.heap[c]?) (hsz:w'.heap.size=w.heap.size) (hs:SameOut w w') (ho:ORel P F m z o (some ob)):
  Step P F m h (h.put r o) w w' m:=by
 refine⟨Y0h m,(fun s c hc hn=>by rw[hn]at hc;cases hc),⟨?_,?_,?_,?_,fun s hs'=>by rw[Y0y,Y0c (fun e=>by subst e;have:=hr.wf _ hs';rw[hg]at this;cases this)];exact hr.wf s hs'⟩,hs,(by rw[hsz];exact Y0u _),?_,Y0u _,?_,(fun s b z hc hn _=>by rw[hn]at hc;cases hc),fun b o h=>.inl h⟩
 ·intro s p c y hg' hm'
  rw[Y0y]at hg'
  by_cases h':r=s
  ·rw[Y0e h']at hg';cases hg'
   subst h'
   rw[hm]at hm';cases hm'
   rw[hat];exact ho
  ·rw[Y0c h']at hg'
   have h1:=hr.obj s p c y hg' hm'
   by_cases hl:p.live=true
   ·have hc:c≠b:=fun e=>h' (hr.inj r s q p b z y hg hq hg' hl hm (e▸hm'))
    rw[hne c hc];exact h1
   ·cases p<;>first|trivial|exact absurd rfl hl
 ·intro s t p p' c y y' hg1 hl1 hg2 hl2 hm1 hm2
  rw[Y0y]at hg1 hg2
  have e1:∃o1,h.get s=some o1∧o1.live=true:=by
   by_cases h':r=s
   ·exact⟨q,h'▸hg,hq⟩
   ·rw[Y0c h']at hg1;exact⟨p,hg1,hl1⟩
  have e2:∃o1,h.get t=some o1∧o1.live=true:=by
   by_cases h':r=t
   ·exact⟨q,h'▸hg,hq⟩
   ·rw[Y0c h']at hg2;exact⟨p',hg2,hl2⟩
  obtain⟨o1,a1,b1⟩:=e1
  obtain⟨o2,a2,b2⟩:=e2
  exact hr.inj s t o1 o2 c y y' a1 b1 a2 b2 hm1 hm2
 ·intro s p c y hg' hl hm'
  rw[Y0y]at hg'
  by_cases h':r=s
  ·subst h';exact hr.out r q c y hg hq hm'
  ·rw[Y0c h']at hg';exact hr.out s p c y hg' hl hm'
 ·intro c x hx
  have hc:c≠b:=fun e=>by have:=hr.out r q b z hg hq hm;rw[←e]at this;rcases hx with hx|hx<;>simp[hx]at this
  rw[hne c hc];exact hr.frz c x hx
 ·intro c hc hall
  exact hne c (fun e=>hall r q z hg hq (e▸hm))
 ·intro s o' c hg' hl _
  rw[Y0y]at hg'
  by_cases h':r=s
  ·exact⟨q,h'▸hg,hq⟩
  ·rw[Y0c h']at hg';exact⟨o',hg',hl⟩
theorem Step.trans{h h1 h2:Hp}{w w1 w2:World}{m1 m2:Loc}(a:Step P F m h h1 w w1 m1)(b:Step P F m1 h1 h2 w1 w2 m2):Step P F m h h2 w w2 m2 where
  le:=Loc.le_trans a.le b.le
  new r c hc hn:=by
    cases h1r:m1 r with
    |none=>have:=b.new r c hc h1r;exact⟨Y0C a.nx this.1,this.2⟩
    |some d=>have:=a.new r d h1r hn;exact⟨this.1,Y0D this.2 b.nx⟩
  rel:=b.rel
  same:=a.same.trans b.same
  size:=Y0C a.size b.size
  old c hc hall:=by
    rw[b.old c (Y0D hc a.size) ?_,a.old c hc hall]
    intro r o z hg hl hm
    cases hr:m r with
    | some d=>
      obtain⟨o',hg',hl'⟩:=a.keep r o d hg hl hr
      have:=a.le r d hr
      rw[hm]at this;cases this
      exact hall r o' z hg' hl' hr
    | none=>
      rcases a.mnew r c z hm hr ⟨o,hg,hl⟩with h'|⟨s,o',y,hg',hl',hm'⟩
      ·omega
      ·exact hall s o' y hg' hl' hm'
  nx:=Y0C a.nx b.nx
  keep r o' c hg hl hm:=by
    obtain⟨o1,hg1,hl1⟩:=b.keep r o' c hg hl (a.le r c hm)
    exact a.keep r o1 c hg1 hl1 hm
  mnew r c z hc hn hlive:=by
    obtain⟨o,hg,hl⟩:=hlive
    cases h1r:m1 r with
    | some d=>
      have hd:=b.le r d h1r
      rw[hc]at hd;cases hd
      obtain⟨o1,hg1,hl1⟩:=b.keep r o _ hg hl h1r
      exact a.mnew r c z h1r hn ⟨o1,hg1,hl1⟩
    | none=>
      rcases b.mnew r c z hc h1r ⟨o,hg,hl⟩with h'|⟨s,o',y,hg',hl',hm'⟩
      ·exact .inl (Y0C a.size h')
      · cases hs:m s with
        | some d=>
          obtain⟨o2,hg2,hl2⟩:=a.keep s o' d hg' hl' hs
          have:=a.le s d hs
          rw[hm']at this;cases this
          exact .inr ⟨s,o2,y,hg2,hl2,hs⟩
        |none=>exact a.mnew s c y hm' hs ⟨o',hg',hl'⟩
  fnew c x h:=by
    rcases b.fnew c x h with h1|h1|⟨s,q,y,hg,hl,hm⟩
    ·exact a.fnew c x h1
    ·exact .inr (.inl (Y0C a.size h1))
    · cases hs:m s with
      | some d=>
        obtain⟨o2,hg2,hl2⟩:=a.keep s q d hg hl hs
        have:=a.le s d hs
        rw[hm]at this;cases this
        exact .inr (.inr ⟨s,o2,y,hg2,hl2,hs⟩)
      | none=>
        rcases a.mnew s c y hm hs ⟨q,hg,hl⟩with h2|⟨s',q',y',hg',hl',hm'⟩
        ·exact .inr (.inl h2)
        ·exact .inr (.inr ⟨s',q',y',hg',hl',hm'⟩)
end
end Go.Ax
namespace Go.Ax
section
variable{P:Program}{F:Nat→Option Obj}{m:Loc}{gl:Nat→AV}{eqT:Knob}
theorem VRel.int_inv{k:IntKind}{n:Int}{v:Value}(h:VRel P F m (.int k n) v):v= .int k n:=by cases h;rfl
theorem VRel.bool_inv{b:Bool}{v:Value}(h:VRel P F m (.bool b) v):v= .bool b:=by cases h;rfl
theorem VRel.str_inv{s:List Nat}{v:Value}(h:VRel P F m (.str s) v):∃b:ByteArray,v= .string b∧b.data.toList.map UInt8.toNat=s:=by cases h;exact⟨_,rfl,rfl⟩
theorem VRel.ptr_inv{r o:Nat}{v:Value}(h:VRel P F m (.ptr r o) v):∃b z,m r=some (b,z)∧v= .pointer (some ⟨b,o,none⟩):=by cases h;exact⟨_,_,‹_›,rfl⟩
theorem VRel.nilptr_inv{v:Value}(h:VRel P F m .nilptr v):v= .pointer none:=by cases h;rfl
theorem VRel.nilsl_inv{v:Value}(h:VRel P F m .nilsl v):v= .slice none 0 0:=by cases h;rfl
theorem VRel.nilmap_inv{v:Value}(h:VRel P F m .nilmap v):v= .map none:=by cases h;rfl
theorem VRel.nilif_inv{v:Value}(h:VRel P F m .nilif v):v= .nilIface:=by cases h;rfl
theorem VRel.nilfn_inv{v:Value}(h:VRel P F m .nilfn v):v= .nilFunc:=by cases h;rfl
theorem VRel.map_inv{r:Nat}{v:Value}(h:VRel P F m (.map r) v):∃b z,m r=some (b,z)∧v= .map (some b):=by cases h;exact⟨_,_,‹_›,rfl⟩
theorem VRel.iface_inv{t:TypeId}{x:AV}{v:Value}(h:VRel P F m (.iface t x) v):∃y,v= .iface t y∧VRel P F m x y:=by cases h;exact⟨_,rfl,‹_›⟩
theorem VRel.sl_inv{r o len cap es:Nat}{x:Bool}{v:Value}(h:VRel P F m (.sl r o len cap es x) v):
  ∃b z ccap,m r=some (b,z)∧v= .slice (some ⟨b,o,none⟩) len ccap∧len≤cap∧cap≤ccap∧(x=true→ccap=cap)∧o+ccap*es≤z:=by
 cases h;exact⟨_,_,_,‹_›,rfl,‹_›,‹_›,‹_›,‹_›⟩
theorem VRel.fn_inv{f:Fn}{l k:List AV}{v:Value}(h:VRel P F m (.fn f l k) v):∃f' a c,v= .func f' a c∧FnRel m f f'∧LRel P F m l a.toList∧LRel P F m k c.toList:=by
 cases h with
 |fn hf hl hc hk hd=>exact⟨_,_,_,rfl,hf,⟨by simpa using hl,fun i x y hx hy=>hc i x y hx (by simpa using hy)⟩,⟨by simpa using hk,fun i x y hx hy=>hd i x y hx (by simpa using hy)⟩⟩
theorem VRel.isl_inv{xs:List (List AV)}{v:Value}(h:VRel P F m (.isl xs) v):∃a cap,v= .slice a xs.length cap∧xs.length≤cap∧
  (xs≠ []→∃(b off:Nat) (arr:Array Value) (e:TypeId) (fz:Nat×Nat) (es:Nat) (f:Nat→Nat→Value),a=some ⟨b,off,none⟩∧Fz F m b (.cells arr e fz)∧(∀c∈xs,c.length=es)∧
   (∀i j,i<xs.length→j<es→arr[off+i*es+j]? =some (f i j))∧(∀(i j:Nat) (c:List AV) (x:AV),xs[i]? =some c→c[j]? =some x→VRel P F m x (f i j))):=by
 cases h with
 |isl0 a cap=>exact⟨a,cap,rfl,Y0E _,fun h=>absurd rfl h⟩
 |isl es f hF hl hes hf hc=>exact⟨_,_,rfl,hl,fun _=>⟨_,_,_,_,_,es,f,rfl,hF,hes,hf,hc⟩⟩
theorem VRel.one{x:AV}{v:Value}(h:VRel P F m x v)(hx:q1f x=true):v.oneCell'=true:=by
 cases h with
 |raw h=>cases v<;>first|rfl|cases h
 |_=>first|rfl|exact absurd hx (by simp[q1f])
theorem VRel.raw_cells{v:Value}(h:isFlt v=true):v.cells= #[v]:=by cases v<;>first|rfl|cases h
theorem z2G{x:AV}{v:Value}{l:List AV}(h:VRel P F m x v)(hl:cellsOf x=some l):LRel P F m l v.cells.toList:=by
  cases x with
  |agg cs=>cases hl;obtain⟨a,rfl,ha⟩:=Y0q h;exact ha
  |undef=>cases hl
  |tup vs=>cases hl
  | raw u=>
    cases hl
    have:v.cells= #[v]:=by cases h with|raw h=>exact VRel.raw_cells h
    rw[this]
    exact .cons h .nil
  | _=>
    cases hl
    have:v.cells= #[v]:=by cases h<;>rfl
    rw[this]
    exact .cons h .nil
theorem LRel.one{l:List AV}{a:List Value}(h:LRel P F m l a)(hl:l.all q1f=true):∀v∈a,v.oneCell'=true:=by
 intro v hv
 obtain⟨i,hi,rfl⟩:=Y0F hv
 have hi':i<l.length:=h.len▸hi
 exact(h.at' i _ _ (Y0n hi') (Y0n hi)).one (Y0G.1 hl _ (Y0H hi'))
theorem q0A{t:TypeId}{x:TI}(h:(Ctx.of P gl eqT).ti t=some x):P.underlying t=some x.desc:=by
 obtain⟨i,d,_,hd,e,_⟩:=z0H (Ctx.of_ti h)
 rw[hd,e]
theorem q6v{t:TypeId}{x:TI}(h:(Ctx.of P gl eqT).ti t=some x):∃i,P.info? t=some i∧x.size=i.size∧x.bytes=i.bytes∧x.comparable=i.comparable:=by
 obtain⟨i,d,hi,_,_,e,_,e2,e3,_⟩:=z0H (Ctx.of_ti h)
 exact⟨i,hi,e,e2,e3⟩
theorem q1w{t:TypeId}{x:TI}(h:(Ctx.of P gl eqT).ti t=some x)(w:World):(underlying t).run P w= .ok x.desc w:=by
 simp[underlying,q0A h]
theorem q0O{t:TypeId}{x:TI}(h:(Ctx.of P gl eqT).ti t=some x)(w:World):(sizeOf t).run P w= .ok x.size w:=by
 obtain⟨i,hi,e,_⟩:=q6v h
 simp[sizeOf,typeInfo,hi,e]
theorem q8x{t:TypeId}{x:TI}(h:(Ctx.of P gl eqT).ti t=some x)(w:World):(isAgg t).run P w= .ok x.isAgg w:=by
 have e2:x.isAgg=z9i x.desc:=by
  obtain⟨i,d,_,hd,e,_,e2,_⟩:=z0H (Ctx.of_ti h)
  rw[e2,e]
 simp only[isAgg,Sem.run_bind,q1w h,Result.andThen,e2]
 cases x.desc<;>simp[z9i]
theorem z7c{t:TypeId}{x:TI}(h:(Ctx.of P gl eqT).ti t=some x)(hz:x.zeroOk=true)(w:World):∃v,(zeroValue t).run P w= .ok v w∧LRel P F m x.zero v.cells.toList∧v.cells.size=x.size:=by
 obtain⟨i,d,hi,_,_,_,_,_,_,hz'⟩:=z0H (Ctx.of_ti h)
 obtain⟨v,hv,e,hl,_⟩:=hz' hz
 have hr:LRel P F m x.zero v.cells.toList:=by
  have:=z6H P F m v
  rw[e]
  split
  ·rename_i l hl'
   rw[hl']at this
   obtain⟨a,rfl,ha⟩:=Y0q this
   exact ha
  ·rename_i hne
   have hc:v.cells= #[v]:=by
    cases v with
    |agg a=>obtain⟨l⟩:=a;exact absurd rfl (hne (ofVs l))
    |_=>rfl
   rw[hc];exact .cons this .nil
 refine⟨v,by simp[zeroValue,typeInfo,hi,hv],hr,?_⟩
 have:=hr.len
 simp at this
 omega
theorem x0N{t:TypeId}{x:TI}(h:(Ctx.of P gl eqT).ti t=some x)(hz:x.zeroOk=true)(w:World):∃v,(zeroValue t).run P w= .ok v w∧VRel P F m x.zv v:=by
 obtain⟨i,d,hi,_,_,_,_,_,_,hz'⟩:=z0H (Ctx.of_ti h)
 obtain⟨v,hv,_,_,e⟩:=hz' hz
 exact⟨v,by simp[zeroValue,typeInfo,hi,hv],by rw[e];exact z6H P F m v⟩
theorem z6i{cs:List AV}{o k:Nat}{l:List AV}(h:sub cs o k=some l):o+k≤cs.length∧l=(cs.drop o).take k:=by
 unfold sub at h
 cases hb:Nat.ble (Nat.add o k) cs.length with
 |false=>rw[hb]at h;cases h
 |true=>rw[hb]at h;cases h;exact⟨Y0J hb,rfl⟩
theorem z7i{t:TypeId}{ti:TI}(ht:(Ctx.of P gl eqT).ti t=some ti){cs:List AV}{o b off:Nat}{v:AV}{w:World}(hp:q2r ti cs o=some v)
    (hc:∀(j:Nat) (x:AV),cs[j]? =some x→∃y,w.cell? ⟨b,off+j,none⟩=some y∧VRel P F m x y):
    ∃cv,(loadVar t ⟨b,off+o,none⟩).run P w= .ok cv w∧VRel P F m v cv:=by
  unfold q2r at hp
  cases ha:ti.isAgg with
  | false=>
    rw[ha]at hp
    obtain⟨y,hy,hr⟩:=hc o v hp
    exact⟨y,by simp[loadVar,q8x ht,ha,Result.andThen,hy],hr⟩
  | true=>
    rw[ha]at hp
    dsimp only at hp
    split at hp
    case h_2=>cases hp
    rename_i l hl
    cases hp
    obtain⟨hle,rfl⟩:=z6i hl
    have hlen:((cs.drop o).take ti.size).length=ti.size:=by simp;omega
    have hex:∀j,j<ti.size→∃x,((cs.drop o).take ti.size)[j]? =some x∧cs[o+j]? =some x:=fun j hj=>by
      have:o+j<cs.length:=by omega
      refine⟨cs[o+j],?_,Y0n this⟩
      rw[Y0k,Y0e hj,Y0l,Y0n this]
    let vs:List Value:=(List.range ti.size).map fun j=>(w.cell? ⟨b,off+(o+j),none⟩).getD Go.undef
    have hvl:vs.length=ti.size:=by simp[vs]
    have hv:∀j v,vs[j]? =some v→w.cell? ((⟨b,off+o,none⟩:Addr).add j)=some v:=by
      intro j v hj
      have hj':j<ti.size:=by rw[←hvl];exact(Y0m.1 hj).1
      obtain⟨x,hx1,hx2⟩:=hex j hj'
      obtain⟨y,hy,_⟩:=hc _ x hx2
      have:vs[j]? =some ((w.cell? ⟨b,off+(o+j),none⟩).getD Go.undef):=by simp[vs,hj']
      rw[hj]at this
      cases this
      rw[hy]
      have ea:(⟨b,off+o,none⟩:Addr).add j=⟨b,off+(o+j),none⟩:=by
        unfold Addr.add;split
        ·rename_i h0;subst h0;rfl
        ·simp[Y0K]
      rw[ea,hy];rfl
    have hrun:=run_loadCells_list (P:=P) w ⟨b,off+o,none⟩ vs hv
    rw[hvl]at hrun
    refine⟨.agg vs.toArray,by simp[loadVar,q8x ht,q0O ht,ha,Result.andThen,hrun],Y0o ⟨by simp[hvl];omega,?_⟩⟩
    intro j x y hx hy
    have hy:vs[j]? =some y:=hy
    have hj':j<ti.size:=by rw[←hvl];exact(Y0m.1 hy).1
    obtain⟨x',hx1,hx2⟩:=hex j hj'
    rw[hx]at hx1;cases hx1
    obtain⟨y',hy',hr⟩:=hc _ x hx2
    have:vs[j]? =some ((w.cell? ⟨b,off+(o+j),none⟩).getD Go.undef):=by simp[vs,hj']
    rw[hy]at this
    cases this
    rw[hy'];exact hr
theorem z1K{w:World}{b j:Nat}{arr:Array Value}{e:TypeId}{fz:Nat×Nat}(h:w.heap[b]? =some (.cells arr e fz)):w.cell? ⟨b,j,none⟩=arr[j]? :=by simp[World.cell?,h]
theorem z8H {t:TypeId}{p v:AV}{h:Hp}{cp:Value}{w:World}(hl:loadAt (Ctx.of P gl eqT) t p h=some v)(hp:VRel P F m p cp)(hr:HRel P F m h w):
    ∃cv,(Instr.loadAt t cp).run P w= .ok cv w∧VRel P F m v cv:=by
  unfold loadAt at hl
  split at hl
  ·cases hl
  · rename_i ti ht
    split at hl
    · rename_i r o
      split at hl
      · rename_i e cs hg
        obtain⟨b,z,hm,rfl⟩:=hp.ptr_inv
        obtain⟨arr,h1,h2,h3,h4⟩:=hr.obj r _ b z hg hm
        obtain⟨cv,hrun,hrel⟩:=z7i (P:=P) (F:=F) (m:=m) (b:=b) (off:=0) (w:=w) ht hl (fun j x hx=>by
          have hj:j<arr.size:=by have:=(Y0m.1 hx).1;omega
          exact⟨arr[j],by rw[Y0L,z1K h1,Y0M hj],h4 j x _ hx (Y0M hj)⟩)
        rw[Y0L]at hrun
        exact⟨cv,by simpa [Instr.loadAt,Instr.sureAddr,Result.andThen]using hrun,hrel⟩
      ·cases hl
    · rename_i xs i o
      split at hl
      · rename_i cs hi
        cases hp with
        | iptr es f hF hi' hes hf hc=>
          rename_i b off arr e fz
          obtain⟨cv,hrun,hrel⟩:=z7i (P:=P) (F:=F) (m:=m) (b:=b) (off:=off+i*es) (w:=w) ht hl (fun j x hx=>by
            have hj:j<es:=by have:=(Y0m.1 hx).1;rw[hes cs (Y0N hi)]at this;exact this
            exact⟨f i j,by rw[z1K (hr.frz b _ hF),hf i j hi' hj],hc i j cs x hi hx⟩)
          exact⟨cv,by simpa [Instr.loadAt,Instr.sureAddr,Result.andThen]using hrun,hrel⟩
      ·cases hl
    ·cases hl
theorem q7Y{cs vs:List AV}{o:Nat}(h:o+vs.length≤cs.length):(q1h cs o vs).length=cs.length:=by
 simp[q1h];omega
theorem z5t{cs vs:List AV}{o:Nat}{arr:Array Value}{us:List Value}(hv:LRel P F m vs us)(hle:o+vs.length≤cs.length)(hsz:cs.length≤arr.size)
  (hc:∀(i:Nat) (x:AV) (y:Value),cs[i]? =some x→arr[i]? =some y→VRel P F m x y):
  ∀(i:Nat) (x:AV) (y:Value),(q1h cs o vs)[i]? =some x→(arr.toList.take o++us++arr.toList.drop (o+us.length))[i]? =some y→VRel P F m x y:=by
 intro i x y hx hy
 have hl:=hv.len
 unfold q1h at hx
 simp only[Nat.add_eq]at hx
 by_cases h1:i<o
 ·rw[Y0i (by simp;omega),Y0k,Y0e h1]at hx
  rw[Y0O,Y0i (by simp;omega),Y0k,Y0e h1]at hy
  exact hc i x y hx (by simpa using hy)
 ·rw[Y0j (by simp;omega)]at hx
  rw[Y0O,Y0j (by simp;omega)]at hy
  have e1:(List.take o cs).length=o:=by simp;omega
  have e2:(List.take o arr.toList).length=o:=by simp;omega
  rw[e1]at hx;rw[e2]at hy
  by_cases h2:i-o<vs.length
  ·rw[Y0i h2]at hx
   rw[Y0i (by omega)]at hy
   exact hv.at' _ x y hx hy
  ·rw[Y0j (by omega),Y0l]at hx
   rw[Y0j (by omega),Y0l,←hl]at hy
   exact hc _ x y hx (by simpa using hy)
theorem Step.cells{h:Hp}{w:World}(hr:HRel P F m h w){r:Nat}{e:TypeId}{cs:List AV}{b z:Nat}(hg:h.get r=some (.cells e cs))(hm:m r=some (b,z)){o:Nat}{vs:List AV}{us:List Value}
  (hv:LRel P F m vs us) (hc:vs.all q1f=true) (hle:o+vs.length≤cs.length):
  ∃w',(storeCells ⟨b,o,none⟩ us).run P w= .ok () w'∧Step P F m h (h.put r (.cells e (q1h cs o vs))) w w' m:=by
 obtain⟨arr,h1,h2,h3,h4⟩:=hr.obj r _ b z hg hm
 have hl:=hv.len
 refine⟨_,run_storeCells_at P b o e us 0 arr w h1 (by omega) (hv.one hc),?_⟩
 refine Step.put hr hg rfl hm (setRow_heap w b arr _ e (0,0) h1) (fun c hcb=>setRow_other w b c _ hcb) (setRow_size w b _) ⟨rfl,rfl,rfl⟩ ?_
 refine⟨_,rfl,?_,?_,?_⟩
 ·simp;omega
 ·rw[q7Y hle];exact h3
 ·intro i x y hx hy
  exact z5t hv hle (by omega) h4 i x y hx (by simpa using hy)
theorem q0p{a b:Bool}(h:(a&&b)=true):a=true∧b=true:=by simpa using h
theorem q0i{α:Type}{c:Bool}{x:α}{y:α}(h:(bif c then some x else none)=some y):c=true∧x=y:=by
 cases c with
 |true=>simpa using h
 |false=>cases h
theorem x3h{t:TypeId}{p v:AV}{h h':Hp}{cp cv:Value}{w:World}(hs:storeAt (Ctx.of P gl eqT) t p v h=some h')(hp:VRel P F m p cp)(hv:VRel P F m v cv)(hr:HRel P F m h w):
  ∃w',(Instr.storeAt t cp cv).run P w= .ok () w'∧Step P F m h h' w w' m:=by
 unfold storeAt at hs
 split at hs
 ·rename_i ti vs r o ht hcv
  split at hs
  ·rename_i e cs hg
   obtain⟨hcond,rfl⟩:=q0i hs
   obtain⟨c1,c2⟩:=q0p hcond
   obtain⟨c2,c3⟩:=q0p c2
   have c1:=Y0P c1
   have c2:=Y0J c2
   obtain⟨b,z,hm,rfl⟩:=hp.ptr_inv
   have hl:=z2G hv hcv
   obtain⟨w',hrun,hst⟩:=Step.cells hr hg hm hl c3 c2
   refine⟨w',?_,hst⟩
   have hsz:cv.cells.size=ti.size:=by have:=hl.len;simp at this;omega
   simp[Instr.storeAt,Instr.sureAddr,storeVar,q0O ht,Result.andThen,hsz,hrun]
  ·cases hs
 ·cases hs
end
end Go.Ax
namespace Go.Ax
section
variable{P:Program}{F:Nat→Option Obj}{m:Loc}{gl:Nat→AV}{eqT:Knob}
theorem z4K(e:TypeId)(cells:Array Value)(w:World):(newRow e cells).run P w= .ok ⟨w.heap.size,0,none⟩ {w with heap:=w.heap.push (.cells cells e)}:=by
 simp[newRow,newObj,Sem.run,Result.andThen]
theorem q9A{h:Hp}{w:World}(hr:HRel P F m h w)(hn:m h.nx=none)(e:TypeId){cs:List AV}{cells:Array Value}(hc:LRel P F m cs cells.toList):
  Step P F m h (h.new (.cells e cs)) w {w with heap:=w.heap.push (.cells cells e)} (m.put h.nx w.heap.size cells.size):=by
 refine Step.alloc hr hn rfl ⟨rfl,rfl,rfl⟩ ⟨cells,rfl,rfl,?_,fun i x y hx hy=>(hc.at' i x y hx (by simpa using hy)).mono (Loc.le_put hn)⟩
 have:=hc.len;simp at this;omega
theorem alloc_rel{t:TypeId}{h h':Hp}{v:AV}{w:World}(ha:alloc (Ctx.of P gl eqT) t h=some (v,h'))(hr:HRel P F m h w)(hn:∀r,h.nx≤r→r<h'.nx→m r=none):
  ∃cv w' m',(Instr.alloc t true (.tuple #[])).run P w= .ok cv w'∧Step P F m h h' w w' m'∧VRel P F m' v cv:=by
 unfold alloc at ha
 split at ha
 ·rename_i ti ht
  obtain⟨hz,he⟩:=q0i ha
  cases he
  have hn':=hn h.nx (Y0u _) (Y0B _)
  obtain⟨z,hrun,hl,hsz⟩:=z7c (P:=P) (F:=F) (m:=m) ht hz w
  refine⟨_,_,_,?_,q9A hr hn' t hl,.ptr (z:=z.cells.size) (Y0v _ _ _ _)⟩
  simp[Instr.alloc,hrun,newVar,z4K,Result.andThen]
 ·cases ha
theorem box_rel{t:TypeId}{x v:AV}{cx:Value}{h h':Hp}{w:World}(ha:box t x h=some (v,h'))(hx:VRel P F m x cx)(hr:HRel P F m h w)(hn:∀r,h.nx≤r→r<h'.nx→m r=none):
  ∃cv w' m',(Instr.box t cx).run P w= .ok cv w'∧Step P F m h h' w w' m'∧VRel P F m' v cv:=by
 unfold box at ha
 split at ha
 ·rename_i cs hcs
  cases ha
  have hn':=hn h.nx (Y0u _) (Y0B _)
  refine⟨_,_,_,?_,q9A hr hn' t (z2G hx hcs),.ptr (z:=cx.cells.size) (Y0v _ _ _ _)⟩
  simp[Instr.box,newVar,z4K,Result.andThen]
 ·cases ha
def PRel(P:Program)(F:Nat→Option Obj)(m:Loc)(l:List (Nat×AV))(a:List (Nat×Value)):Prop:=
 l.length=a.length∧∀(i:Nat) (x:Nat×AV) (y:Nat×Value),l[i]? =some x→a[i]? =some y→x.1=y.1∧VRel P F m x.2 y.2
theorem fold_put{cs vs:List AV}{arr us:Array Value}{o:Nat}(hc:LRel P F m cs arr.toList)(hv:LRel P F m vs us.toList)(hle:o+vs.length≤cs.length):
  LRel P F m (q1h cs o vs) (us.zipIdx.foldl (fun cs (c,j)=>cs.setIfInBounds (o+j) c) arr).toList:=by
 have hl:=hv.len
 have hl2:=hc.len
 simp at hl hl2
 have h0:us.zipIdx.foldl (fun cs (c,j)=>cs.setIfInBounds (o+j) c) arr=(us.toList.zipIdx 0).foldl (fun cs (x:Value×Nat)=>cs.setIfInBounds (o+x.2) x.1) arr:=by
  rw[←Array.foldl_toList,Array.toList_zipIdx]
 obtain⟨g1,g2⟩:=Great.foldl_set o us.toList 0 arr
 rw[h0]
 refine⟨by rw[q7Y hle];simp only[Y0Q]at g1⊢;rw[g1];exact hl2,fun i x y hx hy=> ?_⟩
 have hy':(arr.toList.take o++us.toList++arr.toList.drop (o+us.toList.length))[i]? =some y:=by
  have hy:=(by simpa using hy:((us.toList.zipIdx 0).foldl (fun cs (x:Value×Nat)=>cs.setIfInBounds (o+x.2) x.1) arr)[i]? =some y)
  rw[g2 i]at hy
  simp only[Nat.add_zero,Y0Q]at hy
  rw[Y0O]
  by_cases h1:i<o
  ·rw[Y0c (by omega)]at hy
   rw[Y0i (by simp;omega),Y0k,Y0e h1];simpa using hy
  ·rw[Y0j (by simp;omega)]
   have e2:(List.take o arr.toList).length=o:=by simp;omega
   rw[e2]
   by_cases h2:i<o+us.size
   ·rw[Y0e (by omega)]at hy
    rw[Y0i (by simp;omega)];exact hy
   ·rw[Y0c (by omega)]at hy
    rw[Y0j (by simp;omega),Y0l]
    simp only[Y0Q]
    rw[show o+us.size+(i-o-us.size)=i by omega];simpa using hy
 exact z5t hv hle (by omega) (fun i x y hx hy=>hc.at' i x y hx (by simpa using hy)) i x y hx hy'
theorem z3L{place place':Nat→Option (Nat×Nat)}(hpl:∀i x,place i=some x→place' i=some x):∀(ps:List (Nat×AV)) (cps:List (Nat×Value)) (cs l:List AV) (arr:Array Value),z7S place cs ps=some l→PRel P F m ps cps→LRel P F m cs arr.toList→
    ∃r,Instr.fill place' arr cps=some r∧LRel P F m l r.toList
  | [],cps,cs,l,arr,h,hp,hc=>by
    cases cps with
    |nil=>cases h;exact⟨arr,rfl,hc⟩
    |cons y k=>have:=hp.1;simp at this
  | (i, v)::ps,cps,cs,l,arr,h,hp,hc=>by
    cases cps with
    |nil=>have:=hp.1;simp at this
    | cons y k=>
      obtain⟨j,u⟩:=y
      obtain⟨e,hvu⟩:=hp.2 0 _ _ rfl rfl
      dsimp only at e hvu
      subst e
      unfold z7S at h
      split at h
      · rename_i o kk vs hpi hvs
        cases hb:(Nat.beq vs.length kk&&Nat.ble (Nat.add o vs.length) cs.length)with
        |false=>rw[hb]at h;cases h
        | true=>
          rw[hb]at h
          obtain⟨c1,c2⟩:=q0p hb
          have c1:=Y0P c1
          have c2:o+vs.length≤cs.length:=Y0J c2
          have hl:=z2G hvu hvs
          have hll:=hl.len
          have hcl:=hc.len
          simp at hll hcl
          obtain⟨r,hr,hrel⟩:=z3L hpl ps k _ l _ h ⟨by have:=hp.1;simpa using this,fun i x y hx hy=>hp.2 (i+1) x y (by simpa using hx) (by simpa using hy)⟩ (fold_put hc hl c2)
          refine⟨r,?_,hrel⟩
          unfold Instr.fill
          rw[hpl _ _ hpi]
          dsimp only
          rw[Y0c (by simp;omega)]
          exact hr
      ·cases h
theorem PRel.map{s:St}{ρ:Operand→Value}{C:Ctx}(hev:∀x,VRel P F m (s.ev C x) (ρ x))(ps:Array (Nat×Operand)):
  PRel P F m (ps.toList.map fun p=>(p.1,s.ev C p.2)) (ps.map fun(i,x)=>(i,ρ x)).toList:=by
 refine⟨by simp,fun i x y hx hy=> ?_⟩
 simp only[Array.toList_map,Y0R,Y0S]at hx hy
 obtain⟨p,hp,rfl⟩:=hx
 obtain⟨q,hq,rfl⟩:=hy
 rw[hp]at hq;cases hq
 exact⟨rfl,hev _⟩
theorem mapM_all{α β:Type}{f:α→Option β}(d:β):∀{l:List α},(∀x∈l,∃y,f x=some y)→l.mapM f=some (l.map fun x=>(f x).getD d):=by
  intro l
  induction l with
  |nil=>intro _;rfl
  | cons x l ih=>
    intro h
    obtain⟨y,hy⟩:=h x Y0T
    simp[List.mapM_cons,hy,ih fun z hz=>h z (Y0U _ hz)]
theorem z6E{t:TypeId}{x:TI}(h:(Ctx.of P gl eqT).ti t=some x)(hz:x.zeroOk=true):∃i v,P.info? t=some i∧i.zero=some v∧i.size=x.size∧LRel P F m x.zero v.cells.toList∧v.cells.size=x.size:=by
 obtain⟨i,hi,e,_⟩:=q6v h
 obtain⟨v,hv,hl,hs⟩:=z7c (P:=P) (F:=F) (m:=m) h hz default
 refine⟨i,v,hi,?_,e.symm,hl,hs⟩
 simp[zeroValue,typeInfo,hi]at hv
 cases hz':i.zero with
 |none=>rw[hz']at hv;simp at hv
 |some u=>rw[hz']at hv;simp at hv;rw[hv]
theorem build_rel {t:TypeId}{ps:List (Nat×AV)}{cps:Array (Nat×Value)}{v:AV}{w:World}(hb:build (Ctx.of P gl eqT) t ps=some v)(hp:PRel P F m ps cps.toList):
    ∃cv,(Instr.build t cps).run P w= .ok cv w∧VRel P F m v cv:=by
  unfold build at hb
  split at hb
  ·cases hb
  · rename_i ti ht
    cases hz:ti.zeroOk with
    |false=>rw[hz]at hb;cases hb
    | true =>
      rw[hz]at hb
      obtain⟨i,z,hi,hiz,hsz,hzl,_⟩:=z6E (P:=P) (F:=F) (m:=m) ht hz
      have hu:=q0A ht
      simp only[Y0V]at hb
      split at hb
      · rename_i fs hd
        rw[hd]at hu
        cases hall:fs.toList.all (fun f=>((Ctx.of P gl eqT).ti f.type).isSome)with
        |false=>rw[hall]at hb;cases hb
        | true =>
          rw[hall]at hb
          simp only[Y0V]at hb
          split at hb
          · rename_i l hl
            cases hb
            have hmem:∀f∈fs.toList,∃y,((P.info? f.type).map fun i=>(f.offset,i.size))=some y:=fun f hf=>by
              obtain⟨x,hx⟩:=Y0W.1 (Y0G.1 hall f hf)
              obtain⟨j,hj,_⟩:=q6v hx
              exact⟨_,by rw[hj];rfl⟩
            have hmm:=mapM_all (0,0) hmem
            obtain⟨r,hr,hrel⟩:=z3L (P:=P) (F:=F) (m:=m) (place':=fun j=>((fs.toList.map fun f=>(((P.info? f.type).map fun i=>(f.offset,i.size)):Option (Nat×Nat)).getD (0,0)).toArray)[j]?) (fun j x hx=>by
              split at hx
              · rename_i f hf
                split at hx
                · rename_i y hy
                  cases hx
                  obtain⟨j',hj',e,_⟩:=q6v hy
                  simp[hf,hj',e]
                ·cases hx
              ·cases hx) ps cps.toList ti.zero l z.cells hl hp hzl
            exact⟨.agg r,run_build w t cps r (by simp only[Program.built,hi,hu,hiz,hmm];exact hr),Y0o hrel⟩
          ·cases hb
      · rename_i k e hd
        rw[hd]at hu
        split at hb
        · rename_i y hy
          split at hb
          · rename_i l hl
            cases hb
            obtain⟨j,hj,e',_⟩:=q6v hy
            obtain⟨r,hr,hrel⟩:=z3L (P:=P) (F:=F) (m:=m) (place':=fun i=>some (i*j.size,j.size)) (fun i x hx=>by rw[←e'];exact hx) ps cps.toList ti.zero l z.cells hl hp hzl
            exact⟨.agg r,run_build w t cps r (by simp only[Program.built,hi,hu,hiz,hj];exact hr),Y0o hrel⟩
          ·cases hb
        ·cases hb
      ·cases hb
theorem z7U(z:List AV):zeroCells 0 z= []:=rfl
theorem z2h(k:Nat)(z:List AV):zeroCells (k+1) z=z++zeroCells k z:=rfl
theorem q4U(k:Nat)(z:List AV):(zeroCells k z).length=k*z.length:=by
 induction k with
 |zero=>simp[z7U]
 |succ k ih=>rw[z2h,Y0X,ih,Y0Y,Nat.add_comm]
theorem x1C(k:Nat)(z:List AV)(i:Nat)(h:i<k*z.length):(zeroCells k z)[i]? =z[i%z.length]? :=by
  induction k generalizing i with
  |zero=>simp at h
  | succ k ih=>
    rw[z2h]
    by_cases hi:i<z.length
    ·rw[Y0i hi,Nat.mod_eq_of_lt hi]
    · rw[Y0j (by omega),ih _ (by rw[Y0Y]at h;omega)]
      rw[show i%z.length=(i-z.length)%z.length from by rw[Nat.mod_eq_sub_mod (by omega)]]
theorem z3O{z:List AV}{zv:Array Value}(h:LRel P F m z zv.toList)(k n:Nat)(hn:n=k*zv.size):LRel P F m (zeroCells k z) ((Array.range n).map (zv[·%zv.size]!)).toList:=by
 have hl:=h.len
 simp at hl
 subst hn
 refine⟨by simp[q4U,hl],fun i x y hx hy=> ?_⟩
 have hi:i<k*z.length:=by have:=(Y0m.1 hx).1;rwa [q4U]at this
 rw[x1C k z i hi]at hx
 have hz:0<z.length:=by
  rcases Nat.eq_zero_or_pos z.length with h0|h0
  ·rw[h0,Nat.mul_zero]at hi;omega
  ·exact h0
 have hlt:i%zv.size<zv.size:=Nat.mod_lt _ (by omega)
 have:y=zv[i%zv.size]! :=by
  have hi':i<k*zv.size:=by rw[←hl];exact hi
  simp[hi']at hy
  exact hy.symm
 rw[this,Y0Z zv _ hlt]
 exact h.at' _ x _ hx (by rw[hl];simp[hlt])
theorem z8b {t:TypeId} {len:Nat} {ps:List (Nat×AV)} {cps:Array (Nat×Value)} {h h':Hp} {v:AV} {w:World} (hb:buildSlice (Ctx.of P gl eqT) t len ps h=some (v,h')) (hp:PRel P F m ps cps.toList)
    (hr:HRel P F m h w) (hn:∀r,h.nx≤r→r<h'.nx→m r=none):∃cv w' m',(Instr.buildSlice t len cps).run P w= .ok cv w'∧Step P F m h h' w w' m'∧VRel P F m' v cv:=by
  unfold buildSlice at hb
  split at hb
  case h_2=>cases hb
  rename_i ti e size isAgg zero zeroOk bytes comparable zv ht
  split at hb
  case h_2=>cases hb
  rename_i y hy
  cases hc:(y.zeroOk&&Nat.ble (Nat.mul len y.size) 1000000)with
  |false=>rw[hc]at hb;cases hb
  | true =>
    rw[hc]at hb
    simp only[Y0V]at hb
    obtain⟨hz,hlim⟩:=q0p hc
    have hlim:len*y.size≤1000000:=Y0J hlim
    split at hb
    case h_2=>cases hb
    rename_i l hl
    cases hb
    obtain⟨i,z,hi,hiz,hsz,hzl,hzs⟩:=z6E (P:=P) (F:=F) (m:=m) hy hz
    have hu:=q0A ht
    dsimp only at hu
    have hzero:=z3O hzl len (len*y.size) (by rw[hzs])
    obtain⟨r,hrf,hrel⟩:=z3L (P:=P) (F:=F) (m:=m) (place':=fun k=>some (k*i.size,i.size)) (fun k x hx=>by rw[hsz];exact hx) ps cps.toList _ l _ hl hp hzero
    have hn':=hn h.nx (Y0u _) (Y0B _)
    have hrun:(Instr.buildSlice t len cps).run P w= .ok (.slice (some ⟨w.heap.size,0,none⟩) len len) {w with heap:=w.heap.push (.cells r e)}:=by
      by_cases h0:len*i.size=0
      · have h00:len*y.size=0:=by rw[←hsz];exact h0
        have e0:(Array.range 0).map (z.cells[·%z.cells.size]!)= #[]:=by simp
        rw[h00,e0]at hrf
        have er:Array.range 0= #[]:=rfl
        simp[Instr.buildSlice,run_underlying hu,sizeOf,typeInfo,hi,h0,Result.andThen,z4K,hrf,er]
      · rw[←hsz]at hrf
        exact run_buildSlice w t e len cps r i z hu hi hiz (by rw[hsz];omega) h0 hrf
    have hlen:=hrel.len
    have hl1 :l.length=len*y.size:=by
      rw[hlen]
      have:=q4U len y.zero
      have hzz:=hzl.len
      simp at hzz
      have : ∀(ps:List (Nat×AV)) (cs l:List AV),z7S (fun i=>some (Nat.mul i y.size,y.size)) cs ps=some l→l.length=cs.length:=by
        intro ps
        induction ps with
        |nil=>intro cs l h;cases h;rfl
        | cons p ps ih=>
          intro cs l h
          unfold z7S at h
          split at h
          · rename_i o kk vs _ hvs
            obtain⟨hcc,h⟩:(Nat.beq vs.length kk&&Nat.ble (Nat.add o vs.length) cs.length)=true∧z7S (fun i=>some (Nat.mul i y.size,y.size)) (q1h cs o vs) ps=some l:=by
              cases hbb:(Nat.beq vs.length kk&&Nat.ble (Nat.add o vs.length) cs.length)with
              |false=>rw[hbb]at h;cases h
              |true=>rw[hbb]at h;exact⟨rfl,h⟩
            rw[ih _ _ h,q7Y (Y0J (q0p hcc).2)]
          ·cases h
      rw[←hlen,this ps _ l hl,q4U,hzz,hzs]
    refine⟨_,_,_,hrun,q9A hr hn' e hrel,.sl (z:=r.size) (Y0v _ _ _ _) (Y0u _) (Y0u _) (fun _=>rfl) ?_⟩
    simp at hlen
    omega
theorem q2U(b o k:Nat):(⟨b,o,none⟩:Addr).add k=⟨b,o+k,none⟩:=by
 unfold Addr.add
 split
 ·rename_i h;subst h;rfl
 ·rfl
theorem x3O{t:TypeId}{p v:AV}{k:Nat}{cp:Value}{w:World}(hf:fieldAt (Ctx.of P gl eqT) t p k=some v)(hp:VRel P F m p cp):∃cv,(Instr.fieldAt t cp k).run P w= .ok cv w∧VRel P F m v cv:=by
  unfold fieldAt at hf
  split at hf
  case h_2=>cases hf
  rename_i ti fs size isAgg zero zeroOk bytes comparable zv ht
  split at hf
  case h_2=>cases hf
  rename_i f hk
  split at hf
  case h_2=>cases hf
  rename_i x hx
  have hu:=q1w ht w
  dsimp only at hu
  have hk':fs[k]? =some f:=by simpa using hk
  cases hb:Nat.beq x.size 0 with
  |true=>rw[hb]at hf;cases hf
  | false=>
    rw[hb]at hf
    simp only[Y1b]at hf
    have h0:x.size≠0:=fun e=>by rw[e]at hb;cases hb
    split at hf
    · rename_i r o
      cases hf
      obtain⟨b,z,hm,rfl⟩:=hp.ptr_inv
      exact⟨_,by simp[Instr.fieldAt,hu,hk',Result.andThen,Instr.sureAddr,fieldPlace,q0O hx,h0,q2U],.ptr hm⟩
    · rename_i xs i o
      cases hf
      cases hp with
      | iptr es g hF hi hes hfc hc=>
        rename_i b off arr e fz
        refine⟨.pointer (some ⟨b,off+i*es+o+f.offset,none⟩),by simp[Instr.fieldAt,hu,hk',Result.andThen,Instr.sureAddr,fieldPlace,q0O hx,h0,q2U],?_⟩
        rw[Y0K]
        exact .iptr es g hF hi hes hfc hc
    ·cases hf
theorem q9x{t:TypeId}{ti:TI}(ht:(Ctx.of P gl eqT).ti t=some ti){cs:List AV}{arr:Array Value}{o:Nat}{v:AV}{w:World}(hp:q2r ti cs o=some v)(hc:LRel P F m cs arr.toList):
    ∃cv,(part t arr o).run P w= .ok cv w∧VRel P F m v cv:=by
  unfold q2r at hp
  have hl:=hc.len
  simp at hl
  cases ha:ti.isAgg with
  | false=>
    rw[ha]at hp
    obtain⟨y,hy,hr⟩:=hc.get hp
    have hy':arr[o]? =some y:=by simpa using hy
    exact⟨y,by simp[part,q8x ht,ha,Result.andThen,hy'],hr⟩
  | true=>
    rw[ha]at hp
    dsimp only at hp
    split at hp
    case h_2=>cases hp
    rename_i l hl'
    cases hp
    obtain⟨hle,rfl⟩:=z6i hl'
    refine⟨.agg (arr.extract o (o+ti.size)),by simp[part,q8x ht,q0O ht,ha,Result.andThen],Y0o ?_⟩
    have:(arr.extract o (o+ti.size)).toList=(arr.toList.drop o).take ti.size:=by
      simp[Array.toList_extract,List.extract_eq_take_drop]
    rw[this]
    exact(hc.drop o).take _
theorem x3N{t:TypeId}{x v:AV}{k:Nat}{cx:Value}{w:World}(hf:z4H (Ctx.of P gl eqT) t x k=some v)(hx:VRel P F m x cx):∃cv,(Instr.field t cx k).run P w= .ok cv w∧VRel P F m v cv:=by
 unfold z4H at hf
 split at hf
 case h_2=>cases hf
 rename_i ti fs size isAgg zero zeroOk bytes comparable zv ht
 split at hf
 case h_2=>cases hf
 rename_i f cs hk
 split at hf
 case h_2=>cases hf
 rename_i y hy
 have hu:=q1w ht w
 dsimp only at hu
 have hk':fs[k]? =some f:=by simpa using hk
 obtain⟨a,rfl,ha⟩:=Y0q hx
 obtain⟨cv,hrun,hrel⟩:=q9x (w:=w) hy hf ha
 exact⟨cv,by simp[Instr.field,hu,hk',Result.andThen,asAgg,hrun],hrel⟩
theorem q9h{v:AV}{n:Nat}(h:q6t v=some n):∃k,v= .int k (.ofNat n):=by
 unfold q6t at h
 split at h
 ·cases h;exact⟨_,rfl⟩
 ·cases h
theorem x3I{t:TypeId}{x ix v:AV}{cx ci:Value}{w:World}(hf:indexAt (Ctx.of P gl eqT) t x ix=some v)(hx:VRel P F m x cx)(hi:VRel P F m ix ci):∃cv,(Instr.indexAt t cx ci).run P w= .ok cv w∧VRel P F m v cv:=by
  unfold indexAt at hf
  split at hf
  case h_2=>cases hf
  rename_i ti i ht hni
  obtain⟨k,rfl⟩:=q9h hni
  obtain rfl:=hi.int_inv
  have hu:=q1w ht w
  have h0:(0:Int)≤Int.ofNat i:=Y1c i
  split at hf
  · rename_i len e r o hd
    split at hf
    case h_2=>cases hf
    rename_i y hy
    obtain⟨hlt,rfl⟩:=q0i hf
    have hlt:i<len:=Y0J hlt
    obtain⟨b,z,hm,rfl⟩:=hx.ptr_inv
    rw[hd]at hu
    refine⟨_,?_,.ptr (o:=o+i*y.size) hm⟩
    simp[Instr.indexAt,asIntOf,hu,Result.andThen,Instr.sureAddr,q0O hy,q2U,hlt]
  · rename_i len e xs j o hd
    split at hf
    case h_2=>cases hf
    rename_i y hy
    obtain⟨hlt,rfl⟩:=q0i hf
    have hlt:i<len:=Y0J hlt
    rw[hd]at hu
    cases hx with
    | iptr es g hF hi hes hfc hc=>
      rename_i b off arr e' fz
      refine⟨.pointer (some ⟨b,off+j*es+o+i*y.size,none⟩),by simp[Instr.indexAt,asIntOf,hu,Result.andThen,Instr.sureAddr,q0O hy,q2U,hlt],?_⟩
      rw[Y0K]
      exact .iptr es g hF hi hes hfc hc
  · rename_i e r o len cap es fx hd
    split at hf
    case h_2=>cases hf
    rename_i y hy
    obtain⟨hb,rfl⟩:=q0i hf
    obtain⟨hlt,he⟩:=q0p hb
    have hlt:i<len:=Y0J hlt
    have he:=Y0P he
    obtain⟨b,z,ccap,hm,rfl,_⟩:=hx.sl_inv
    rw[hd]at hu
    refine⟨_,?_,.ptr (o:=o+i*es) hm⟩
    simp[Instr.indexAt,asIntOf,hu,Result.andThen,q0O hy,q2U,hlt,he]
  · rename_i e xs hd
    split at hf
    case h_2=>cases hf
    rename_i y ch hy hch
    obtain⟨he,rfl⟩:=q0i hf
    have he:=Y0P he
    have hlt:i<xs.length:=(Y0m.1 hch).1
    rw[hd]at hu
    obtain⟨a,cap,rfl,hcap,hne⟩:=hx.isl_inv
    obtain⟨b,off,arr,e',fz,es,g,rfl,hF,hes,hfc,hc⟩:=hne (fun e=>by rw[e]at hlt;simp at hlt)
    have hes':y.size=es:=by rw[he,hes ch (Y0N hch)]
    refine⟨.pointer (some ⟨b,off+i*es,none⟩),by simp[Instr.indexAt,asIntOf,hu,Result.andThen,q0O hy,q2U,hlt,hes'],?_⟩
    exact .iptr (o:=0) es g hF hlt hes hfc hc
  ·cases hf
theorem x3H{t:TypeId}{x ix v:AV}{cx ci:Value}{w:World}(hf:z9f (Ctx.of P gl eqT) t x ix=some v)(hx:VRel P F m x cx)(hi:VRel P F m ix ci):∃cv,(Instr.index t cx ci).run P w= .ok cv w∧VRel P F m v cv:=by
  unfold z9f at hf
  split at hf
  case h_2=>cases hf
  rename_i ti i ht hni
  obtain⟨k,rfl⟩:=q9h hni
  obtain rfl:=hi.int_inv
  have hu:=q1w ht w
  split at hf
  · rename_i len e cs hd
    split at hf
    case h_2=>cases hf
    rename_i y hy
    cases hlt:Nat.blt i len with
    |false=>rw[hlt]at hf;cases hf
    | true=>
      rw[hlt]at hf
      have hlt:i<len:=Y0J hlt
      obtain⟨a,rfl,ha⟩:=Y0q hx
      obtain⟨cv,hrun,hrel⟩:=q9x (w:=w) hy hf ha
      rw[hd]at hu
      exact⟨cv,by
        have hrun:(part e a (i*y.size)).run P w= .ok cv w:=hrun
        simp[Instr.index,asIntOf,hu,Result.andThen,q0O hy,hlt,hrun],hrel⟩
  · rename_i s hd
    split at hf
    case h_2=>cases hf
    rename_i b hb
    cases hf
    obtain⟨bs,rfl,rfl⟩:=hx.str_inv
    rw[hd]at hu
    rw[Y0R,Y0S]at hb
    obtain⟨u,hu1,rfl⟩:=hb
    have hlt:i<bs.size:=by have:=(Y0m.1 hu1).1;simpa using this
    have hu2:bs[i]? =some u:=by
      have h1:bs.data.toList[i]? =some u:=hu1
      rw[getElem?_pos bs i hlt]
      have h2:bs.data[i]? =some u:=by simpa using h1
      rw[getElem?_pos bs.data i hlt]at h2
      exact h2
    refine⟨.int .u8 u.toNat,?_,.int .u8 _⟩
    simp[Instr.index,asIntOf,hu,Result.andThen,hu2]
  ·cases hf
end
end Go.Ax
namespace Go.Ax
theorem q8t(k:IntKind)(n:Int):q9r k n=k.wrap n:=by
  unfold q9r
  split
  · rename_i m
    cases h:Nat.ble m 9223372036854775807 with
    |false=>rfl
    | true=>
      have h:=Y0J h
      have h1:(Int.ofNat m:Int)=(m:Int):=rfl
      rw[Y0V,h1]
      exact(Go.IntWalk.i64_in _ (by omega)).symm
  · rename_i m
    simp only[IntKind.wrap,IntKind.bits,IntKind.signed,Y1d]
    show((m%256:Nat):Int)=(m:Int)%256
    omega
  · rename_i m
    simp only[IntKind.wrap,IntKind.bits,IntKind.signed,Y1d]
    show((m%18446744073709551616:Nat):Int)=(m:Int)%18446744073709551616
    omega
  ·rfl
theorem x3c(a b:Int):addI a b=a+b:=by unfold addI;split<;>rfl
theorem z9a(a b:Int):subI a b=a-b:=by
 unfold subI
 split
 ·rename_i x y
  cases h:Nat.ble y x with
  |false=>rfl
  |true=>have:=Y0J h;simp only[Y0V];show((Nat.sub x y:Nat):Int)=(x:Int)-(y:Int);simp only[Nat.sub_eq];omega
 ·rfl
theorem x8h(a b:Int):mulI a b=a*b:=by unfold mulI;split<;>rfl
theorem quoI_eq(a b:Int):quoI a b=a.tdiv b:=by unfold quoI;split<;>rfl
theorem remI_eq(a b:Int):remI a b=a.tmod b:=by unfold remI;split<;>rfl
theorem q9v(x y:Nat):Nat.beq x y=(x==y):=by rw[Y1e];simp
theorem q7R(a b:Int):eqI a b=(a==b):=by
 unfold eqI
 split
 ·rename_i x y
  rw[q9v,Y1e];simp;omega
 ·rename_i x y
  rw[q9v,Y1e];simp
 ·rename_i h1 h2
  cases a<;>cases b<;>first|(exact absurd rfl (h1 _ _ rfl))|(exact absurd rfl (h2 _ _ rfl))|rfl
theorem q7P(a b:Int):ltI a b=decide (a<b):=by
 unfold ltI
 split
 ·rename_i x y
  rw[Y1e];simp[Nat.blt,Nat.lt_iff_add_one_le]
 ·rename_i x y
  rw[Y1e];simp[Nat.blt];omega
 ·rename_i x y
  rw[Y1e];simp;omega
 ·rename_i x y
  rw[Y1e];simp;omega
theorem q5w{k j:IntKind}(h:q2s k j=true):k=j:=by cases k<;>cases j<;>first|rfl|cases h
theorem eqS_iff(a b:List Nat):eqS a b=true↔a=b:=by
  induction a generalizing b with
  |nil=>cases b<;>simp[eqS]
  | cons x a ih=>
    cases b with
    |nil=>simp[eqS]
    |cons y b=>simp[eqS,ih,q9v]
theorem z9N{a b:List UInt8}(h:a.map UInt8.toNat=b.map UInt8.toNat):a=b:=by
  induction a generalizing b with
  | nil=>cases b with
    |nil=>rfl
    |cons y b=>simp at h
  | cons x a ih=>
    cases b with
    |nil=>simp at h
    | cons y b=>
      simp only[Y1f,Y1g]at h
      rw[ih h.2,UInt8.toNat_inj.1 h.1]
theorem z6V(a b:ByteArray):eqS (a.data.toList.map UInt8.toNat) (b.data.toList.map UInt8.toNat)=(a.toList==b.toList):=by
 rw[Y1e,eqS_iff,beq_iff_eq,ByteArray.toList_eq,ByteArray.toList_eq]
 exact⟨z9N,fun h=>by rw[h]⟩
theorem x1g:∀(a b:List UInt8),ltS (a.map UInt8.toNat) (b.map UInt8.toNat)=Op.bytesLess a b
  |[],[]=>rfl
  |[],_::_=>rfl
  |_::_,[]=>rfl
  | x :: a,y::b=>by
    simp only[Y1f,ltS,Op.bytesLess,x1g a b]
    by_cases h1:x<y
    · have:Nat.blt x.toNat y.toNat=true:=by simp[Nat.blt];exact UInt8.lt_iff_toNat_lt.1 h1
      simp[this,h1]
    · have h1':Nat.blt x.toNat y.toNat=false:=by
        cases h:Nat.blt x.toNat y.toNat with
        |false=>rfl
        |true=>exact absurd (UInt8.lt_iff_toNat_lt.2 (Y0J h)) h1
      by_cases h2:x=y
      ·subst h2;simp[h1',h1]
      · have:Nat.beq x.toNat y.toNat=false:=by
          rw[q9v];simp;exact fun e=>h2 (UInt8.toNat_inj.1 e)
        simp[h1',this,h1,h2]
structure EqOk(P:Program)(eqT:Knob):Prop where
 held:∀t,eqT.eqT t=true→P.stoodInHeld t=false
 guard:∀t,eqT.eqT t=true→P.eqGuardType P.depth t=false
 names:∀t fs,eqT.eqT t=true→P.underlying t=some (.struct fs)→∀f∈fs.toList,f.name≠ "_"
section
variable{P:Program}{F:Nat→Option Obj}{m:Loc}{gl:Nat→AV}{eqT:Knob}
theorem eqArr_rel{d:Nat}{e:TypeId}{y:TI}(hy:(Ctx.of P gl eqT).ti e=some y){ih:AV→AV→Option Bool}{w:World}
    (hih:∀p q b,ih p q=some b→∀cp cq,VRel P F m p cp→VRel P F m q cq→(Op.equalIn d e cp cq).run P w= .ok b w) {a b:List AV} {xs ys:Array Value} (ha:LRel P F m a xs.toList) (hb:LRel P F m b ys.toList):
    ∀(k i:Nat) (r:Bool),z8Y ih y a b k i=some r→(Op.eqItems d e (P.cellsOf e) xs ys (List.range' i k)).run P w= .ok r w:=by
  have hc:P.cellsOf e=y.size:=by
    obtain⟨j,hj,e',_⟩:=q6v hy
    simp[Program.cellsOf,hj,e']
  rw[hc]
  intro k
  induction k with
  |zero=>intro i r h;cases h;rfl
  | succ k ihk=>
    intro i r h
    unfold z8Y at h
    split at h
    case h_2=>cases h
    rename_i p q hp hq
    obtain⟨cp,hrp,hvp⟩:=q9x (w:=w) hy hp ha
    obtain⟨cq,hrq,hvq⟩:=q9x (w:=w) hy hq hb
    have hrp:(part e xs (i*y.size)).run P w= .ok cp w:=hrp
    have hrq:(part e ys (i*y.size)).run P w= .ok cq w:=hrq
    rw[Y1i]
    simp only[Op.eqItems,Sem.run_bind,hrp,hrq,Result.andThen_ok]
    split at h
    · rename_i ht
      rw[hih p q true ht cp cq hvp hvq]
      simp only[Result.andThen_ok,Y1k,Y1l,Y1m]
      exact ihk (i+1) r h
    · rename_i hne2
      cases hi:ih p q with
      |none=>rw[hi]at h;cases h
      | some b'=>
        rw[hi]at h;cases h
        cases r with
        |true=>exact absurd hi (hne2)
        |false=>rw[hih p q false hi cp cq hvp hvq];simp
theorem z5y{d:Nat}{ih:TypeId→AV→AV→Option Bool}{w:World}(hih:∀t p q b,ih t p q=some b→∀cp cq,VRel P F m p cp→VRel P F m q cq→(Op.equalIn d t cp cq).run P w= .ok b w)
    {a b:List AV} {xs ys:Array Value} (ha:LRel P F m a xs.toList) (hb:LRel P F m b ys.toList):
    ∀(fs:List Field) (r:Bool),(∀f∈fs,f.name≠ "_")→eqFields (Ctx.of P gl eqT) ih a b fs=some r→(Op.eqFields d xs ys fs).run P w= .ok r w
  |[],r,_,h=>by cases h;rfl
  | f ::fs,r,hn,h=>by
    unfold eqFields at h
    split at h
    case h_2=>cases h
    rename_i y hy
    split at h
    case h_2=>cases h
    rename_i p q hp hq
    obtain⟨cp,hrp,hvp⟩:=q9x (w:=w) hy hp ha
    obtain⟨cq,hrq,hvq⟩:=q9x (w:=w) hy hq hb
    have hne:=hn f Y0T
    simp only[Op.eqFields,hne,ne_eq,not_false_eq_true,Y1n,Sem.run_bind,hrp,hrq,Result.andThen_ok]
    split at h
    · rename_i ht
      rw[hih f.type p q true ht cp cq hvp hvq]
      simp only[Result.andThen_ok,Y1k,Y1l,Y1m]
      exact z5y hih ha hb fs r (fun g hg=>hn g (Y0U _ hg)) h
    · rename_i hne2
      cases hi:ih f.type p q with
      |none=>rw[hi]at h;cases h
      | some b'=>
        rw[hi]at h;cases h
        cases r with
        |true=>exact absurd hi (hne2)
        |false=>rw[hih f.type p q false hi cp cq hvp hvq];simp
theorem x6U{α:Type}{c:Bool}{x:Option α}{y:α}(h:(bif c then x else none)=some y):c=true∧x=some y:=by
 cases c with
 |true=>exact⟨rfl,h⟩
 |false=>cases h
theorem z9h (hE :EqOk P eqT) (w:World):∀(k:Nat) (t:TypeId) (x y:AV) (b:Bool),eqA (Ctx.of P gl eqT) k t x y=some b→∀cx cy,VRel P F m x cx→VRel P F m y cy→∀d,k≤d→(Op.equalIn d t cx cy).run P w= .ok b w:=by
  intro k
  induction k with
  |zero=>intro t x y b h;cases h
  | succ k ih =>
    intro t x y b h cx cy hx hy d hd
    obtain⟨d,rfl⟩:∃e,d=e+1:=⟨d-1,by omega⟩
    unfold eqA z0x at h
    split at h
    ·cases h
    · rename_i ti ht
      have hu:=q0A ht
      split at h
      · rename_i hdesc;rw[hdesc]at hu;obtain rfl:=hx.bool_inv;obtain rfl:=hy.bool_inv;cases h
        simp[Op.equalIn,run_underlying hu]
      · rename_i hdesc;rw[hdesc]at hu;obtain rfl:=hx.int_inv;obtain rfl:=hy.int_inv
        obtain⟨hk,rfl⟩:=q0i h
        obtain rfl:=q5w hk
        simp[Op.equalIn,run_underlying hu,q7R]
      · rename_i hdesc;rw[hdesc]at hu;obtain⟨s1,rfl,rfl⟩:=hx.str_inv;obtain⟨s2,rfl,rfl⟩:=hy.str_inv;cases h
        simp[Op.equalIn,run_underlying hu,z6V,beq_toListBytes]
      · rename_i hdesc;rw[hdesc]at hu;obtain rfl:=hx.nilptr_inv;obtain rfl:=hy.nilptr_inv;cases h
        simp[Op.equalIn,run_underlying hu]
      · rename_i hdesc;rw[hdesc]at hu;obtain rfl:=hx.nilptr_inv;obtain⟨_,_,_,rfl⟩:=hy.ptr_inv;cases h
        simp[Op.equalIn,run_underlying hu]
      · rename_i hdesc;rw[hdesc]at hu;obtain⟨_,_,_,rfl⟩:=hx.ptr_inv;obtain rfl:=hy.nilptr_inv;cases h
        simp[Op.equalIn,run_underlying hu]
      · rename_i e r o q p hdesc;rw[hdesc]at hu;obtain⟨b1,z1,hm1,rfl⟩:=hx.ptr_inv;obtain⟨b2,z2,hm2,rfl⟩:=hy.ptr_inv
        obtain⟨hrq,h⟩:=x6U h
        have hrq:=Y0P hrq
        rw[←hrq,hm1]at hm2;cases hm2
        cases hy:(Ctx.of P gl eqT).ti e with
        |none=>rw[hy]at h;cases h
        |some y=>
        rw[hy]at h
        dsimp only at h
        cases hz:Nat.beq y.size 0 with
        |true=>rw[hz]at h;cases h
        | false =>
          rw[hz]at h;cases h
          have hne:y.size≠0:=fun e=>by rw[e]at hz;cases hz
          have key:(({block:=b1,off:=o,spot:=none}:Addr)=={block:=b1,off:=p,spot:=none})=Nat.beq o p:=by
            by_cases hop:o=p
            ·subst hop;rw[Y1o];simp
            · have:Nat.beq o p=false:=by
                cases hb:Nat.beq o p with
                |false=>rfl
                |true=>exact absurd (Y0P hb) hop
              rw[this];simp
          simp only[Op.equalIn,Sem.run_bind,run_underlying hu,Result.andThen_ok,q0O hy,sameAddr,beq_self_eq_true,Y1n]
          rw[Y0e hne,←key];rfl
      · rename_i hdesc;rw[hdesc]at hu;obtain rfl:=hx.nilif_inv;obtain rfl:=hy.nilif_inv;cases h
        simp[Op.equalIn,run_underlying hu]
      · rename_i hdesc;rw[hdesc]at hu;obtain rfl:=hx.nilif_inv;obtain⟨_,rfl,_⟩:=hy.iface_inv;cases h
        simp[Op.equalIn,run_underlying hu]
      · rename_i hdesc;rw[hdesc]at hu;obtain⟨_,rfl,_⟩:=hx.iface_inv;obtain rfl:=hy.nilif_inv;cases h
        simp[Op.equalIn,run_underlying hu]
      · rename_i u a v c hdesc;rw[hdesc]at hu;obtain⟨ca,rfl,ha⟩:=hx.iface_inv;obtain⟨cb,rfl,hb⟩:=hy.iface_inv
        cases huv:Nat.beq u v with
        | false=>
          rw[huv]at h;cases h
          have hne:u≠v:=fun e=>by rw[e,Y1o]at huv;cases huv
          simp[Op.equalIn,run_underlying hu,hne]
        | true=>
          rw[huv]at h
          obtain rfl:=Y0P huv
          simp only[Y0V]at h
          split at h
          case h_2=>cases h
          rename_i wi hwi
          obtain⟨j,hj,_,_,hcmp⟩:=q6v hwi
          cases hc:wi.comparable with
          |false=>rw[hc]at h;cases h
          | true=>
            rw[hc]at h
            simp only[Y0V]at h
            have:=ih u a c b h ca cb ha hb d (by omega)
            rw[hc]at hcmp
            simp[Op.equalIn,run_underlying hu,typeInfo,hj,←hcmp,this]
      · rename_i len e a c hdesc;rw[hdesc]at hu
        split at h
        case h_2=>cases h
        rename_i yi hyi
        obtain⟨xs,rfl,ha⟩:=Y0q hx
        obtain⟨ys,rfl,hb⟩:=Y0q hy
        obtain⟨j,hj,_⟩:=q6v hyi
        rw[run_equalIn_array w d xs ys hu hj,List.range_eq_range']
        exact eqArr_rel hyi (fun p q b hpq cp cq hp hq=>ih e p q b hpq cp cq hp hq d (by omega)) ha hb len 0 b h
      · rename_i fs a c hdesc;rw[hdesc]at hu
        cases hq:eqT.eqT t with
        |false=>rw[show(Ctx.of P gl eqT).eqT t=false from hq]at h;cases h
        | true=>
          rw[show(Ctx.of P gl eqT).eqT t=true from hq]at h
          obtain⟨xs,rfl,ha⟩:=Y0q hx
          obtain⟨ys,rfl,hb⟩:=Y0q hy
          have hfo:P.fieldsOf t=fs:=by simp[Program.fieldsOf,hu]
          rw[run_equalIn_struct w d t xs ys (by rw[hfo];exact hu) (hE.held t hq),hfo]
          exact z5y (fun u p q b hpq cp cq hp hq=>ih u p q b hpq cp cq hp hq d (by omega)) ha hb fs.toList b (hE.names t fs hq hu) h
      · rename_i hdesc;rw[hdesc]at hu;obtain rfl:=hx.nilsl_inv;obtain rfl:=hy.nilsl_inv;cases h
        simp[Op.equalIn,run_underlying hu]
      · rename_i hdesc;rw[hdesc]at hu;obtain⟨_,_,_,_,rfl,_⟩:=hx.sl_inv;obtain rfl:=hy.nilsl_inv;cases h
        simp[Op.equalIn,run_underlying hu]
      · rename_i hdesc;rw[hdesc]at hu;obtain⟨ad,cap,rfl,_,hne⟩:=hx.isl_inv;obtain rfl:=hy.nilsl_inv;cases h
        obtain⟨_,_,_,_,_,_,_,he,_⟩:=hne (by simp)
        subst he
        simp[Op.equalIn,run_underlying hu]
      · rename_i hdesc;rw[hdesc]at hu;obtain rfl:=hx.nilfn_inv;obtain rfl:=hy.nilfn_inv;cases h
        simp[Op.equalIn,run_underlying hu]
      · rename_i hdesc;rw[hdesc]at hu;obtain⟨_,_,_,rfl,_⟩:=hx.fn_inv;obtain rfl:=hy.nilfn_inv;cases h
        simp[Op.equalIn,run_underlying hu]
      ·cases h
end
end Go.Ax
