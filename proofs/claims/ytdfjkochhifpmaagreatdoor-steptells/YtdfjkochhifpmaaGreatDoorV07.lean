import Derived.Test.YtdfjkochhifpmaaGreatDoorV06
set_option linter.unusedSimpArgs false
set_option linter.unusedVariables false
noncomputable section
namespace Go.Ax
abbrev Kn:=List (Nat×AV)
def kn:Kn→Nat→Option AV
 |[],_=>none
 |(i,v)::l,t=>bif Nat.beq i t then some v else kn l t
def evK(C:Ctx)(l:Kn):Operand→Option AV
 | .tmp t=>kn l t
 | .const v=>some (ofV v)
 | .global g=>some (C.gl g)
 | .func f=>some (.fn (.func f) [] [])
def evsK(C:Ctx)(l:Kn):List Operand→Option (List AV)
  |[]=>some []
  | x::r=>match evK C l x,evsK C l r with
    |some v,some vs=>some (v::vs)
    |_,_=>none
structure Atk(s:St)(n:Nat)(rd:Option Nat)(l:Kn)(h:Hp)(ds:List ADef):Prop where
 n:s.n=n
 h:s.h=h
 ds:s.ds=ds
 rd:s.rd=rd
 tm:∀t v,kn l t=some v→tget s.tm t=v
abbrev PQ:=Ex→Kn→Hp→List ADef→Prop
variable{P:Program}{F:Nat→Option Obj}{gl:Nat→AV}{eqT:Knob}{C:Ctx}{n:Nat}{rd:Option Nat}{l l':Kn}{h h1:Hp}{ds:List ADef}{s:St}{Q Q':PQ}
theorem Atk.ev(hs:Atk s n rd l h ds){x:Operand}{v:AV}(hx:evK C l x=some v):s.ev C x=v:=by
 cases x with
 |tmp t=>exact hs.tm t v hx
 |const w=>exact Y1Y hx
 |global g=>exact Y1Y hx
 |func f=>exact Y1Y hx
theorem Atk.evs(hs:Atk s n rd l h ds):∀{xs:List Operand} {vs:List AV},evsK C l xs=some vs→allA C s xs=vs
  |[],vs,hx=>by cases hx;rfl
  | x::r,vs,hx=>by
    unfold evsK at hx
    split at hx
    case h_2=>cases hx
    rename_i v vs' hv hvs
    cases hx
    show s.ev C x::allA C s r=_
    rw[hs.ev hv,hs.evs hvs]
def Less(l l':Kn):Prop:=∀t v,kn l' t=some v→kn l t=some v
theorem q0h:Less l []:=fun t v h=>by cases h
theorem q0e{t:Nat}{v:AV}(h1:kn l t=some v)(h2:Less l l'):Less l ((t,v)::l'):=fun u w hu=>by
 unfold kn at hu
 cases hb:Nat.beq t u with
 |true=>rw[hb]at hu;cases hu;rw[←Y0P hb];exact h1
 |false=>rw[hb]at hu;exact h2 u w hu
theorem Atk.less(hs:Atk s n rd l h ds)(hl:Less l l'):Atk s n rd l' h ds:=⟨hs.n,hs.h,hs.ds,hs.rd,fun t v ht=>hs.tm t v (hl t v ht)⟩
theorem Atk.put(hs:Atk s n rd l h ds){d:Nat}(hb:Nat.blt d n=true)(v:AV)(g:Hp):∃s1,putD s (some d) v g=some s1∧Atk s1 n rd ((d,v)::l) g ds:=by
  refine⟨{s with tm:=s.tm.set d v,h:=g},?_,⟨hs.n,rfl,hs.ds,hs.rd,fun t w ht=> ?_⟩⟩
  · unfold putD
    dsimp only
    rw[hs.n,hb]
    rfl
  · show tget (s.tm.set d v) t=w
    rw[q4o]
    unfold kn at ht
    cases hb:Nat.beq d t with
    |true=>rw[hb]at ht;cases ht;rw[Y0e (Y0P hb)]
    | false=>
      rw[hb]at ht
      rw[Y0c (fun e=>by rw[e,Y1o]at hb;cases hb)]
      exact hs.tm t w ht
theorem Atk.put0(hs:Atk s n rd l h ds)(v:AV)(g:Hp):∃s1,putD s none v g=some s1∧Atk s1 n rd l g ds:=⟨{s with h:=g},rfl,hs.n,rfl,hs.ds,hs.rd,hs.tm⟩
def TPost(P:Program)(F:Nat→Option Obj)(n:Nat)(rd:Option Nat)(m:Loc)(h:Hp)(w:World)(Q:PQ):Exit→Act→World→Prop:=
 fun x a' w'=>∃e s' l' h' ds',Q e l' h' ds'∧Atk s' n rd l' h' ds'∧HpLe h h'∧Post P F m h s' w e x a' w'
theorem TPost.mono{m:Loc}{w:World}{x:Exit}{a:Act}{w':World}(hQ:∀e l h ds,Q e l h ds→Q' e l h ds)(hp:TPost P F n rd m h w Q x a w'):TPost P F n rd m h w Q' x a w':=by
 obtain⟨e,s',l',h',ds',q,r⟩:=hp
 exact⟨e,s',l',h',ds',hQ _ _ _ _ q,r⟩
theorem TPost.after{m m1:Loc}{w w1:World}{x:Exit}{a:Act}{w':World}(hs:Step P F m h h1 w w1 m1)(hle:HpLe h h1)(hp:TPost P F n rd m1 h1 w1 Q x a w'):TPost P F n rd m h w Q x a w':=by
 obtain⟨e,s',l',h',ds',q,ha,hl,hp⟩:=hp
 exact⟨e,s',l',h',ds',q,ha,hle.trans hl,hp.after hs⟩
def TW(P:Program)(F:Nat→Option Obj)(c:Code)(n:Nat)(rd:Option Nat)(l:Kn)(h:Hp)(ds:List ADef)(Q:PQ):Prop:=
 ∀s,Atk s n rd l h ds→∀m a w fe k,HRel P F m h w→ARel P F m s a→FenRel m rd fe→Fre m h→c.wpIn fe k P (TPost P F n rd m h w Q) a w
def TL(P:Program)(F:Nat→Option Obj)(c:Code)(n:Nat)(rd:Option Nat)(l:Kn)(h:Hp)(ds:List ADef)(Q:PQ):Prop:=
 ∀s,Atk s n rd l h ds→∀m a w fe k,HRel P F m h w→ARel P F m s a→FenRel m rd fe→Fre m h→z6q fe k P (.inLoop c) c (TPost P F n rd m h w Q) a w
theorem TW.mono{c:Code}(ht:TW P F c n rd l h ds Q)(hQ:∀e l h ds,Q e l h ds→Q' e l h ds):TW P F c n rd l h ds Q':=fun s hs m a w fe k hr ha hf hF=>
 wpIn_mono (ht s hs m a w fe k hr ha hf hF) fun _ _ _ hp=>hp.mono hQ
theorem TW.less{c:Code}(hl:Less l l')(ht:TW P F c n rd l' h ds Q):TW P F c n rd l h ds Q:=fun s hs=>ht s (hs.less hl)
theorem TPost.now{m:Loc}{w:World}{a:Act}{e:Ex}{x:Exit}(hs:Atk s n rd l h ds)(hr:HRel P F m h w)(ha:ARel P F m s a)(hx:XRel P F m e x)(hQ:Q e l h ds):TPost P F n rd m h w Q x a w:=
 ⟨e,s,l,h,ds,hQ,hs,.refl _,m,hx,by rw[hs.h];exact Y0t hr rfl (Y0r w),ha⟩
theorem TW.skip(hQ:Q .normal l h ds):TW P F .skip n rd l h ds Q:=fun _ hs _ _ _ _ _ hr ha _ _=>wpIn_skip (.now hs hr ha .normal hQ)
abbrev Y2s:=@TW.skip
theorem TW.label{i:Nat}(hQ:Q .normal l h ds):TW P F (.label i) n rd l h ds Q:=fun _ hs _ _ _ _ _ hr ha _ _=>wpIn_label (.now hs hr ha .normal hQ)
theorem TW.exit{i:Nat}(hQ:Q (.exit i) l h ds):TW P F (.exit i) n rd l h ds Q:=fun _ hs _ _ _ _ _ hr ha _ _=>wpIn_exit (.now hs hr ha (.exit i) hQ)
abbrev Y2t:=@TW.exit
theorem TW.ret(hQ:Q .ret l h ds):TW P F .ret n rd l h ds Q:=fun _ hs _ _ _ _ _ hr ha _ _=>wpIn_ret (.now hs hr ha .ret hQ)
abbrev Y2u:=@TW.ret
def q0a(P:Program)(F:Nat→Option Obj)(b:Code)(n:Nat)(rd:Option Nat)(Q:PQ):PQ
 | .normal,l,h,ds=>TW P F b n rd l h ds Q
 |e,l,h,ds=>Q e l h ds
theorem TW.seq{x y:Code}(ht:TW P F x n rd l h ds (q0a P F y n rd Q)):TW P F (.seq x y) n rd l h ds Q:=fun s hs m a w fe k hr ha hf hF=>by
  refine wpIn_seq (wpIn_mono (ht s hs m a w fe k hr ha hf hF) fun e a' w' hp=> ?_)
  obtain⟨e,s',l',h',ds',q,hs',hle,m',hx,hst,ha'⟩:=hp
  have hh:=hs'.h
  have same:∀{e x},XRel P F m' e x→Q e l' h' ds'→TPost P F n rd m h w Q x a' w':=fun hx hq=>⟨_,s',l',h',ds',hq,hs',hle,m',hx,hst,ha'⟩
  cases hx with
  | normal=>
    rw[hh]at hst
    exact wpIn_mono (q s' hs' m' a' w' fe k hst.rel ha' (hf.mono hst.le) (hF.after hst)) fun x a'' w'' hp=>hp.after hst hle
  |goto i=>exact same (.goto i) q
  |exit i=>exact same (.exit i) q
  |ret=>exact same .ret q
  |panic hv=>exact same (.panic hv) q
abbrev Y2v:=@TW.seq
theorem TW.cond(hP:POk P F gl eqT){x:Operand}{p q:Code}{b:Bool}(hx:evK (Ctx.of P gl eqT) l x=some (.bool b))(ht:b=true→TW P F p n rd l h ds Q)(he:b=false→TW P F q n rd l h ds Q):TW P F (.cond x p q) n rd l h ds Q:=fun s hs m a w fe k hr ha hf hF=>by
 have hev:=q0F hP ha.tm x
 rw[hs.ev hx]at hev
 cases b with
 |true=>exact wpIn_cond_true hev.bool_inv (ht rfl s hs m a w fe k hr ha hf hF)
 |false=>exact wpIn_cond_false hev.bool_inv (he rfl s hs m a w fe k hr ha hf hF)
abbrev Y2w:=@TW.cond
def q0c(id:Nat)(Q:PQ):PQ
 | .exit j,l,h,ds=>if j=id then Q .normal l h ds else Q (.exit j) l h ds
 |e,l,h,ds=>Q e l h ds
theorem TW.block{id:Nat}{x:Code}(ht:TW P F x n rd l h ds (q0c id Q)):TW P F (.block id x) n rd l h ds Q:=fun s hs m a w fe k hr ha hf hF=>by
  refine wpIn_block (wpIn_mono (ht s hs m a w fe k hr ha hf hF) fun e a' w' hp=> ?_)
  obtain⟨e,s',l',h',ds',q,hs',hle,m',hx,hst,ha'⟩:=hp
  have same:∀{e x},XRel P F m' e x→Q e l' h' ds'→TPost P F n rd m h w Q x a' w':=fun hx hq=>⟨_,s',l',h',ds',hq,hs',hle,m',hx,hst,ha'⟩
  cases hx with
  |normal=>exact same .normal q
  |goto i=>exact same (.goto i) q
  | exit j=>
    unfold q0c at q
    dsimp only at q
    split at q
    · rename_i hj
      simp only[Exit.inBlock,hj,Y1n]
      exact same .normal q
    · rename_i hj
      simp only[Exit.inBlock,hj,Y1m]
      exact same (.exit j) q
  |ret=>exact same .ret q
  |panic hv=>exact same (.panic hv) q
abbrev Y2x:=@TW.block
def roundQ(I:Nat→Kn→Hp→List ADef→Prop)(j:Nat)(Q:PQ):PQ
 | .normal,l,h,ds=>∃i,i<j∧I i l h ds
 |e,l,h,ds=>Q e l h ds
theorem TL.loop{I:Nat→Kn→Hp→List ADef→Prop}{c:Code}(hI:∀j l h ds,I j l h ds→TW P F c n rd l h ds (roundQ I j Q)):∀(j:Nat) (l:Kn) (h:Hp) (ds:List ADef),I j l h ds→TL P F c n rd l h ds Q:=by
  intro j
  induction j using Nat.strongRecOn with
  | _ j ih=>
    intro l h ds hi s hs m a w fe k hr ha hf hF
    refine x3e (wpIn_mono (hI j l h ds hi s hs m a w fe k hr ha hf hF) fun x a' w' hp=> ?_)
    obtain⟨e,s',l',h',ds',q,hs',hle,m',hx,hst,ha'⟩:=hp
    have hh:=hs'.h
    have same:∀{e x},XRel P F m' e x→Q e l' h' ds'→TPost P F n rd m h w Q x a' w':=fun hx hq=>⟨_,s',l',h',ds',hq,hs',hle,m',hx,hst,ha'⟩
    cases hx with
    | normal=>
      obtain⟨i,hij,hi'⟩:=q
      rw[hh]at hst
      have:=ih i hij l' h' ds' hi' s' hs' m' a' w' fe k hst.rel ha' (hf.mono hst.le) (hF.after hst)
      intro b K cs hro hb hrm
      obtain⟨e2,a2,w2,hq,harr⟩:=this b K cs hro hb hrm
      exact⟨e2,a2,w2,hq.after hst hle,harr⟩
    |goto i=>exact same (.goto i) q
    |exit i=>exact same (.exit i) q
    |ret=>exact same .ret q
    |panic hv=>exact same (.panic hv) q
theorem TW.loop(I:Nat→Kn→Hp→List ADef→Prop){c:Code}{j:Nat}(h0:I j l h ds)(hI:∀j l h ds,I j l h ds→TW P F c n rd l h ds (roundQ I j Q)):TW P F (.loop c) n rd l h ds Q:=fun s hs m a w fe k hr ha hf hF=>
 x3f (TL.loop hI j l h ds h0 s hs m a w fe k hr ha hf hF)
def CallsT(P:Program)(F:Nat→Option Obj)(h:Hp)(O:AV→Hp→Prop)(f:FuncId)(args:List AV):Prop:=
 ∀(m:Loc) (w:World) (n:Nat) (cargs:Array Value),HRel P F m h w→LRel P F m args cargs.toList→Fre m h→CallsIn Fence.wide n P f cargs w (fun e w'=>∃v h',O v h'∧HpLe h h'∧Heard P F m h h' w v e w')
def IsFn(P:Program)(f:FuncId):Prop:=∃fn c,P.funcs[f]? =some fn∧fn.body=some c
theorem CallsT.mono{O O':AV→Hp→Prop}{f:FuncId}{args:List AV}(hc:CallsT P F h O f args)(hO:∀v h,O v h→O' v h):CallsT P F h O' f args:=fun m w n cargs hr hA hF=>
 (hc m w n cargs hr hA hF).mono fun _ _ ⟨v,h',o,r⟩=>⟨v,h',hO _ _ o,r⟩
theorem CallsT.of_calling{h':Hp}{v:AV}{f:FuncId}{args:List AV}(hle:HpLe h h')(hc:Calling P F h h' v f args):CallsT P F h (fun u g=>u=v∧g=h') f args:=fun m w n cargs hr hA hF=>
 (hc m w n cargs hr hA hF.to).mono fun _ _ he=>⟨v,h',⟨rfl,rfl⟩,hle,he⟩
theorem CallsT.of_pure{v:AV}{f:FuncId}{args:List AV}(hp:PureC P F f args v):CallsT P F h (fun u g=>u=v∧g=h) f args:=by
  refine .of_calling (.refl _) fun m w n cargs hR hA _=>(hp m w n cargs hR.frz hA).mono fun e w' he=> ?_
  obtain⟨cv,fz,rfl,hs,hz,hold,hfz,hle,hnew,hv⟩:=he
  have hlm:Loc.le m ⟨m,fz⟩:=⟨fun _ _ h=>h,hle⟩
  refine⟨cv,⟨m,fz⟩,rfl,⟨hlm,fun r c h1 h2=> ?_,⟨fun r o b z hg hm=> ?_,hR.inj,fun r o b z hg hl hm=> ?_,fun b o hb=> ?_,hR.wf⟩,hs,hz,fun b hb _=>hold b hb,Y0u _,fun r o' c hg hl _=>⟨o',hg,hl⟩,fun r b z h1 h2 _=> ?_,fun b o hb=>(hnew b o hb).imp_right .inl⟩,VRel.mono (m:=⟨fun _=>none,fz⟩) (m':=⟨m,fz⟩) ⟨fun r c h=>(by cases h),fun _ _ h=>h⟩ hv⟩
  · have h1:m r=some c:=h1
    rw[h2]at h1;cases h1
  · have h1:=hR.obj r o b z hg hm
    by_cases hl:o.live=true
    ·rw[hold b (hR.lt hg hl hm)];exact h1.mono hlm
    ·cases o<;>first|trivial|exact absurd rfl hl
  · obtain ⟨h1, h2⟩:=hR.out r o b z hg hl hm
    refine⟨h1,?_⟩
    show fz b=none
    cases hf:fz b with
    |none=>rfl
    | some x => rcases hnew b x hf with h3|h3
                ·rw[h2]at h3;cases h3
                ·have:=hR.lt hg hl hm;omega
  · rcases hb with hb|hb
    · have h1:Fz F m b o:=.inl hb
      rw[hold b (hR.flt h1)];exact hR.frz b o h1
    ·exact hfz b o hb
  · have h1:m r=some (b,z):=h1
    rw[h2]at h1;cases h1
def resK(C:Ctx)(l:Kn)(h:Hp):List ResultVar→Option (List AV)
  |[]=>some []
  | .tmp t::r=>(match kn l t,resK C l h r with|some v,some vs=>some (v::vs)|_,_=>none)
  | .cell a t::r=>(match kn l a,resK C l h r with
    |some p,some vs=>(match loadAt C t p h with|some v=>some (v::vs)|none=>none)
    |_,_=>none)
theorem Atk.res(hs:Atk s n rd l h ds):∀{r:List ResultVar} {vs:List AV} {g:Hp},resK C l g r=some vs→q3n C {s with h:=g} r=some vs
  |[],vs,g,hr=>by cases hr;rfl
  | .tmp t::r,vs,g,hr=>by
    unfold resK at hr
    split at hr
    case h_2=>cases hr
    rename_i v vs' hv hvs
    cases hr
    unfold q3n
    rw[hs.res hvs]
    show some (tget s.tm t::vs')=_
    rw[hs.tm t v hv]
  | .cell a t::r,vs,g,hr=>by
    unfold resK at hr
    split at hr
    case h_2=>cases hr
    rename_i p vs' hv hvs
    split at hr
    case h_2=>cases hr
    rename_i v hl
    cases hr
    unfold q3n
    rw[hs.res hvs]
    show(match loadAt C t (tget s.tm a) g,some vs' with|some v,some vs=>some (v::vs)|_,_=>none)=_
    rw[hs.tm a p hv,hl]
def x5F:Nat→List AV→Kn
 |_,[]=>[]
 |i,v::r=>(i,v)::x5F (i+1) r
theorem x5v:∀{r:List AV} {i t:Nat} {v:AV},kn (x5F i r) t=some v→i≤t∧r[t-i]? =some v
  |[],i,t,v,hk=>by cases hk
  | x ::r,i,t,v,hk=>by
    unfold x5F kn at hk
    cases hb:Nat.beq i t with
    | true=>
      rw[hb]at hk;cases hk
      obtain rfl:=Y0P hb
      exact⟨Y0u _,by simp⟩
    | false=>
      rw[hb]at hk
      obtain⟨h1,h2⟩:=x5v hk
      refine⟨by omega,?_⟩
      rw[show t-i=(t-(i+1))+1 by omega]
      simpa using h2
def endQ(C:Ctx)(ih:Code→St→Res)(fn:Func)(O:AV→Hp→Prop):PQ:=fun e l h ds=>
 (e= .normal∨e= .ret)∧∃h' vs,q2k C ih ds h=some h'∧resK C l h' fn.results.toList=some vs∧O (q0q vs) h'
theorem CallsT.body(hP:POk P F gl eqT){ih:Code→St→Res}(hih:Sound P F ih){f:FuncId}{fn:Func}{c:Code}{args:List AV}{O:AV→Hp→Prop}(hf:P.funcs[f]? =some fn)(hb:fn.body=some c)(hl:Nat.ble args.length fn.ntmps=true)
  (ht:TW P F c fn.ntmps none (x5F 0 args) h [] (endQ (Ctx.of P gl eqT) ih fn O)):CallsT P F h O f args:=fun m w n cargs hR hA hF=>by
 have hle:=Y0J hl
 have h0:Atk {n:=fn.ntmps,tm:=z0A .e 0 args,h:=h,ds:=[],rd:=none} fn.ntmps none (x5F 0 args) h []:=⟨rfl,rfl,rfl,rfl,fun t v hk=>by
  obtain⟨h1,h2⟩:=x5v hk
  show tget (z0A .e 0 args) t=v
  rw[z0O,Y0e h1,h2]⟩
 refine q5R hf hb trivial (wpIn_mono (ht _ h0 m _ w _ n hR ⟨z6l hA hle,.nil⟩ rfl hF) fun x a' w' hp=> ?_)
 obtain⟨e,s',l',h',ds',⟨he,h'',vs,hd,hres,hO⟩,hs',hle',m',hx,hst,ha'⟩:=hp
 have hh:=hs'.h
 have hds:=hs'.ds
 have fin:q4I Fence.wide n P fn a'.tmps (fun e w'=>∃v h',O v h'∧HpLe h h'∧Heard P F m h h' w v e w') a'.defers .returning w':=by
  have hd':q2k (Ctx.of P gl eqT) ih s'.ds s'.h=some h'':=by rw[hds,hh];exact hd
  have hl2:=q5v hih _ _ _ hd'
  refine ret_relR hP.names hih ha' hst (Y1T hst (fun r h3 _=>hF r h3)) hd' (hs'.res hres) fun cv m2 w2 h3 h4=> ?_
  exact⟨q0q vs,h'',hO,hle'.trans (by rw[←hh];exact hl2),cv,m2,rfl,h3,h4⟩
 rcases he with rfl|rfl
 ·cases hx;exact fin
 ·cases hx;exact fin
abbrev Y2y:=@CallsT.body
theorem CallsT.pure{f:FuncId}{args:List AV}{O:AV→Hp→Prop}{v':AV}{k:Nat}(hn:q2g args=true)(hc:CallsT P F h0 O f args)(hO:∀v h,O v h→frzV k h v=some v'):PureC P F f args v':=by
 intro m w j cargs hfr hA
 have no:∀r o,¬h0.get r=some o:=fun r o hg=>by
  have:h0.get r=none:=Y0a r
  rw[this]at hg;cases hg
 refine(hc ⟨fun _=>none,m.fz⟩ w j cargs (hrel0 hfr) (hA.unref (fun _ _ h=>h) hn) (fun _ _=>rfl)).mono fun e w' he=> ?_
 obtain⟨v,h',ho,_,cv,m',rfl,hs,hrel⟩:=he
 have hv:=hO v h' ho
 have fb:∀b o,m.fz b=some o→b<w.heap.size:=fun b o hb=>(Y0s.1 (hfr b o (.inr hb))).1
 let fz:Nat→Option Obj:=fun b=>if b<w.heap.size then m.fz b else w'.heap[b]?
 have h1:∀b o,m'.fz b=some o→fz b=some o:=fun b o hb=>by
  rcases hs.fnew b o hb with h|h|⟨s,q,y,hg,_⟩
  ·have:=fb b o h
   show(if b<w.heap.size then m.fz b else w'.heap[b]?)=some o
   rw[Y0e this];exact h
  ·show(if b<w.heap.size then m.fz b else w'.heap[b]?)=some o
   rw[Y0c (by omega)];exact hs.rel.frz b o (.inr hb)
  ·exact absurd hg (no s q)
 refine⟨cv,fz,rfl,hs.same,hs.size,fun b hb=>hs.old b hb fun r o z hg=>absurd hg (no r o),fun b o hb=> ?_,fun b o hb=> ?_,fun b o hb=> ?_,z3z hs.rel h1 (fun r o b z ob hg hl hm hb=> ?_) k v cv v' hrel hv⟩
 ·have hb:(if b<w.heap.size then m.fz b else w'.heap[b]?)=some o:=hb
  split at hb
  ·exact hs.rel.frz b o (.inr (hs.le.frz b o hb))
  ·exact hb
 ·show(if b<w.heap.size then m.fz b else w'.heap[b]?)=some o
  rw[Y0e (fb b o hb)];exact hb
 ·have hb:(if b<w.heap.size then m.fz b else w'.heap[b]?)=some o:=hb
  split at hb
  ·exact .inl hb
  ·exact .inr (by omega)
 ·show(if b<w.heap.size then m.fz b else w'.heap[b]?)=some ob
  rcases hs.mnew r b z hm rfl ⟨o,hg,hl⟩with h|⟨s,q,y,hg2,_⟩
  ·rw[Y0c (by omega)];exact hb
  ·exact absurd hg2 (no s q)
abbrev Y2z:=@CallsT.pure
def ActsT(P:Program)(F:Nat→Option Obj)(m:Loc)(h:Hp)(O:AV→Hp→Prop)(w:World)(q:Sem Next):Prop:=
 (∃v h',O v h'∧HpLe h h'∧Acts P F m h h' w v q)∨(∃f args,q.run P w= .ok (.enter f args) w∧∀n,CallsIn Fence.wide n P f args w (fun e w'=>∃v h',O v h'∧HpLe h h'∧Heard P F m h h' w v e w'))
theorem ActsT.wp{m:Loc}{O:AV→Hp→Prop}{w:World}{o:Oper}{a:Act}{fe:Fence}{n:Nat}{K:Act→World→Prop}{Qx:Exit→Act→World→Prop}
  (hd:ActsT P F m h O w (execOp a.eval o)) (hnd:∀c,o.op≠ .defer c) (hf:FenRel m rd fe)
  (hK:∀v h',O v h'→HpLe h h'→∀m' cv w',Step P F m h h' w w' m'→VRel P F m' v cv→K (a.put o.dst cv) w'):o.wpIn fe n P a w K Qx:=by
 rcases hd with⟨v,h',ho,hle,hd⟩|⟨f,args,h1,h2⟩
 ·exact hd.wp hnd hf (hK v h' ho hle)
 ·refine⟨fun f _=>hf.fn f,?_⟩
  rw[Oper.semAt_eq _ _ _ hnd,h1]
  refine⟨fun h=>(by rw[hf.depth]at h;cases h),?_⟩
  have h3:CallsIn fe (n-1) P f args w (fun e w'=>∃v h',O v h'∧HpLe h h'∧Heard P F m h h' w v e w'):=by
   cases rd with
   |none=>cases hf;exact h2 _
   |some l=>obtain⟨_,_,_,rfl⟩:=hf;exact h2 _
  refine h3.mono fun e w' he=> ?_
  obtain⟨v,h',ho,hle,cv,m',rfl,g1,g2⟩:=he
  exact hK v h' ho hle _ _ _ g1 g2
def OpT(P:Program)(F:Nat→Option Obj)(o:Oper)(n:Nat)(rd:Option Nat)(l:Kn)(h:Hp)(ds:List ADef)(O:AV→Hp→Prop):Prop:=
 (∀c,o.op≠ .defer c)∧∀s,Atk s n rd l h ds→∀m (a:Act) w,HRel P F m h w→TRel P F m s.tm s.n a.tmps→Fre m h→ActsT P F m h O w (execOp a.eval o)
def knTr:Kn→Tr AV
 |[]=>.e
 |(i,v)::l=>(knTr l).set i v
theorem z9v:∀{l:Kn} {t:Nat} {v:AV},kn l t=some v→tget (knTr l) t=v
  |[],t,v,hk=>by cases hk
  | (i,u)::l,t,v,hk=>by
    unfold kn at hk
    show tget ((knTr l).set i u) t=v
    rw[q4o]
    cases hb:Nat.beq i t with
    |true=>rw[hb]at hk;cases hk;rw[Y0e (Y0P hb)]
    | false=>
      rw[hb]at hk
      rw[Y0c (fun e=>by rw[e,Y1o]at hb;cases hb)]
      exact z9v hk
theorem OpT.det(hP:POk P F gl eqT){ih:Code→St→Res}(hih:Sound P F ih){o:Oper}{v:AV}(ho:∀s,Atk s n rd l h ds→opA P (Ctx.of P gl eqT) ih s o=some (.val v h1)):OpT P F o n rd l h ds (fun u g=>u=v∧g=h1):=by
 let s0:St:={n:=n,tm:=knTr l,h:=h,ds:=ds,rd:=rd}
 have hs0:Atk s0 n rd l h ds:=⟨rfl,rfl,rfl,rfl,fun t v hk=>z9v hk⟩
 have hnd:=x7M (ho s0 hs0) nofun
 refine⟨hnd,fun s hs m a w hr ht hF=> ?_⟩
 obtain⟨v',h',he,q1,_,q3⟩:=x2U hP hih (ho s hs) hnd
 cases he
 have hh:=hs.h
 rw[hh]at q1 q3
 exact .inl ⟨_,_,⟨rfl,rfl⟩,q1,q3 m a w hr ht hF.to⟩
theorem OpT.call(hP:POk P F gl eqT){g:FuncId}{x:Operand}{aas:Array Operand}{ts:Array TypeId}{dd:Option Nat}{ty:TypeId}{pos:String}{aft:Array Edge}{gd:Option (Nat×Bool)}{first cap vs:List AV}{O:AV→Hp→Prop}
  (hx:evK (Ctx.of P gl eqT) l x=some (.fn (.func g) first cap)) (ha:evsK (Ctx.of P gl eqT) l aas.toList=some vs) (hf:IsFn P g) (hc:CallsT P F h O g (first++vs++cap)):
  OpT P F ⟨dd,.call {callee:=.value x,args:=aas,argTypes:=ts},ty,pos,aft,gd⟩ n rd l h ds O:=by
 refine⟨nofun,fun s hs m a w hr ht hF=> ?_⟩
 have hfv:=q0F hP ht x
 rw[hs.ev hx]at hfv
 obtain⟨f',p,q,e1,hfn,hp,hq⟩:=hfv.fn_inv
 cases hfn
 obtain⟨fn,c',h1,h2⟩:=hf
 refine .inr ⟨g,(p++aas.map a.eval)++q,?_,fun n=>hc m w n _ hr ?_ hF⟩
 ·unfold execOp
  simp only[resolve,e1]
  show Sem.run P (callFunc g ((p++aas.map a.eval)++q)) w=_
  exact q3F h1 (hP.names g fn h1 (by rw[h2];rfl)) h2 _ w
 ·rw[Y1F,Y1F,←hs.evs ha]
  exact(hp.append (q9y (q0F hP ht) aas)).append hq
def TO(P:Program)(F:Nat→Option Obj)(all rest:List Oper)(n:Nat)(rd:Option Nat)(l:Kn)(h:Hp)(ds:List ADef)(Q:PQ):Prop:=
 ∀(ops:Array Oper) (i:Nat),ops.toList=all→all.drop i=rest→∀s,Atk s n rd l h ds→∀m a w fe k (Qx:Exit→Act→World→Prop),HRel P F m h w→ARel P F m s a→FenRel m rd fe→Fre m h→(∀x a' w',TPost P F n rd m h w Q x a' w'→Qx x a' w')→
  wpOpsIn fe k P ops Qx (List.range' i rest.length) a w
theorem TW.region{id:Nat}{ops:Array Oper}(ht:TO P F ops.toList ops.toList n rd l h ds Q):TW P F (.region id ops false) n rd l h ds Q:=fun s hs m a w fe k hr ha hf hF=>by
 refine wpIn_region ?_
 have:=ht ops 0 rfl rfl s hs m a w fe k _ hr ha hf hF (fun _ _ _ hp=>hp)
 rw[List.range_eq_range']
 simpa using this
variable{all rest:List Oper}{o:Oper}{d:Nat}
theorem TO.nil(hQ:Q .normal l h ds):TO P F all [] n rd l h ds Q:=fun _ _ _ _ _ hs _ _ _ _ _ _ hr ha _ _ hk=>hk _ _ _ (.now hs hr ha .normal hQ)
def wantV(v:AV)(w:Bool):Option Bool:=
 match v with
 | .bool b=>some (b==w)
 | .undef=>none
 |_=>some false
def q6M (all:List Oper)(l:Kn)(o:Oper):Option Bool:=
  match o.guard with
  |none=>some true
  | some (j,want)=>match all[j]? with
    | some p=>(match p.dst with
      | some d=>(match kn l d with
        |some v=>wantV v want
        |none=>none)
      |none=>some false)
    |none=>some false
theorem Atk.want(hs:Atk s n rd l h ds){b:Bool}(hw:q6M all l o=some b):q6u all s o=some b:=by
 unfold q6M at hw
 unfold q6u
 split at hw
 ·rename_i hg;rw[hg];exact hw
 ·rename_i j want hg
  rw[hg]
  dsimp only
  split at hw
  ·rename_i p hp
   rw[hp]
   dsimp only
   split at hw
   ·rename_i d hd
    rw[hd]
    dsimp only
    split at hw
    ·rename_i v hk
     rw[hs.tm d _ hk]
     exact hw
    ·cases hw
   ·rename_i hd;rw[hd];exact hw
  ·rename_i hp;rw[hp];exact hw
theorem TO.step{O:AV→Hp→Prop}(hw:q6M all l o=some true)(hd:o.dst=some d)(hb:Nat.blt d n=true)(ho:OpT P F o n rd l h ds O)(k:∀v h',O v h'→TO P F all rest n rd ((d,v)::l) h' ds Q):TO P F all (o::rest) n rd l h ds Q:=by
 intro ops i hall hdr s hs m a w fe j Qx hr ha hf hF hQ
 obtain⟨ho',hd'⟩:=q9d hdr
 subst hall
 have ho'':ops[i]? =some o:=by simpa using ho'
 have hwt:=q5d ha (hs.want hw)
 simp only[Y2i,Y1i,wpOpsIn,ho'',hwt,Y1n]
 refine(ho.2 s hs m a w hr ha.tm hF).wp ho.1 hf fun v h' hov hle m' cv w' hst hv=> ?_
 obtain⟨s1,hp,hs1⟩:=hs.put hb v h'
 rw[←hd]at hp
 exact k v h' hov ops (i+1) rfl hd' s1 hs1 m' _ w' fe j Qx hst.rel (z3w hp (ha.mono hst.le) hv).1 (hf.mono hst.le) (hF.after hst) fun x a' w'' hp=>hQ _ _ _ (hp.after hst hle)
theorem TO.step0{O:AV→Hp→Prop}(hw:q6M all l o=some true)(hd:o.dst=none)(ho:OpT P F o n rd l h ds O)(k:∀v h',O v h'→TO P F all rest n rd l h' ds Q):TO P F all (o::rest) n rd l h ds Q:=by
 intro ops i hall hdr s hs m a w fe j Qx hr ha hf hF hQ
 obtain⟨ho',hd'⟩:=q9d hdr
 subst hall
 have ho'':ops[i]? =some o:=by simpa using ho'
 have hwt:=q5d ha (hs.want hw)
 simp only[Y2i,Y1i,wpOpsIn,ho'',hwt,Y1n]
 refine(ho.2 s hs m a w hr ha.tm hF).wp ho.1 hf fun v h' hov hle m' cv w' hst hv=> ?_
 obtain⟨s1,hp,hs1⟩:=hs.put0 v h'
 rw[←hd]at hp
 exact k v h' hov ops (i+1) rfl hd' s1 hs1 m' _ w' fe j Qx hst.rel (z3w hp (ha.mono hst.le) hv).1 (hf.mono hst.le) (hF.after hst) fun x a' w'' hp=>hQ _ _ _ (hp.after hst hle)
theorem TO.left(hw:q6M all l o=some false)(hd:o.dst=some d)(hb:Nat.blt d n=true)(k:TO P F all rest n rd ((d,.tup [])::l) h ds Q):TO P F all (o::rest) n rd l h ds Q:=by
 intro ops i hall hdr s hs m a w fe j Qx hr ha hf hF hQ
 obtain⟨ho',hd'⟩:=q9d hdr
 subst hall
 have ho'':ops[i]? =some o:=by simpa using ho'
 have hwt:=q5d ha (hs.want hw)
 simp only[Y2i,Y1i,wpOpsIn,ho'',hwt,Y1l,Y1m]
 obtain⟨s1,hp,hs1⟩:=hs.put hb (.tup []) h
 rw[←hd]at hp
 refine⟨fun f _=>hf.fn f,k ops (i+1) rfl hd' s1 hs1 m _ w fe j Qx hr (z3w hp ha (z6L m)).1 hf hF hQ⟩
theorem TO.left0(hw:q6M all l o=some false)(hd:o.dst=none)(k:TO P F all rest n rd l h ds Q):TO P F all (o::rest) n rd l h ds Q:=by
 intro ops i hall hdr s hs m a w fe j Qx hr ha hf hF hQ
 obtain⟨ho',hd'⟩:=q9d hdr
 subst hall
 have ho'':ops[i]? =some o:=by simpa using ho'
 have hwt:=q5d ha (hs.want hw)
 simp only[Y2i,Y1i,wpOpsIn,ho'',hwt,Y1l,Y1m]
 obtain⟨s1,hp,hs1⟩:=hs.put0 (.tup []) h
 rw[←hd]at hp
 refine⟨fun f _=>hf.fn f,k ops (i+1) rfl hd' s1 hs1 m _ w fe j Qx hr (z3w hp ha (z6L m)).1 hf hF hQ⟩
end Go.Ax
noncomputable section
namespace Go.Ax
section quiet
variable{P:Program}{C:Ctx}{ih:Code→St→Res}{h:Hp}
def z0B(o:Oper):Bool:=
 match o.op with
 | .move _=>true
 | .assign _=>true
 | .pick _ _ _=>true
 | .load _ _=>true
 | .binOp _ _ _ _ _=>true
 | .unOp _ _ _=>true
 | .convert _ _ _=>true
 | .fieldAddr _ _ _=>true
 | .field _ _ _=>true
 | .indexAddr _ _ _=>true
 | .index _ _ _=>true
 | .nilCheck _=>true
 | .extract _ _=>true
 | .slice _ _ _ _ _=>true
 | .lookup _ _ _ _=>true
 | .build _ _=>true
 | .call c=>(match c.callee,c.args.toList with| .builtin .len,_::_=>true|_,_=>false)
 |_=>false
theorem x0B{α:Type}{f:α→OpR}{x:Option α}{r:OpR}(h:ov f x=some r):∃y,x=some y∧r=f y:=by
 cases x with
 |none=>cases h
 |some y=>cases h;exact⟨y,rfl,rfl⟩
theorem len_val{ts:List TypeId}{aas:List AV}{r:OpR}(hb:q4p C .len ts aas h=some r):∃v,r= .val v h:=by
  cases ts with
  |nil=>cases aas<;>cases hb
  | cons t ts=>cases aas with
    |nil=>cases hb
    | cons x aas=>
      have hb:(match q2S C t x h with|some v=>some (OpR.val v h)|none=>none)=some r:=hb
      split at hb<;>cases hb
      exact⟨_,rfl⟩
theorem z4M{s:St}{o:Oper}{v:AV}{g:Hp}(hq:z0B o=true)(ho:opA P C ih s o=some (.val v g)):g=s.h:=by
  unfold z0B at hq
  unfold opA at ho
  cases hop:o.op<;>rw[hop]at hq ho<;>dsimp only at hq ho<;>first
    |(cases hq;done)
    |(cases ho;rfl)
    |(obtain⟨y,_,he⟩:=x0B ho;cases he;rfl)
    |skip
  case pick c a b=>split at ho<;>cases ho;rfl
  case nilCheck x=>split at ho<;>cases ho<;>rfl
  case extract x i=>
    split at ho
    ·obtain⟨y,_,he⟩:=x0B ho;cases he;rfl
    ·cases ho
  case convert a b x=>
    cases hsl:q3I (s.ev C x)with
    |true=>rw[hsl,Y0V]at ho;obtain⟨y,_,he⟩:=x0B ho;cases he;rfl
    |false=>rw[hsl,Y1b]at ho;obtain⟨y,_,he⟩:=x0B ho;cases he;rfl
  case binOp op t x y u=>
    split at ho
    · split at ho
      ·split at ho<;>cases ho;rfl
      ·split at ho<;>cases ho;rfl
      ·cases ho
    ·obtain⟨y,_,he⟩:=x0B ho;cases he;rfl
  case call c=>
    cases hc:c.callee with
    |value f=>rw[hc]at hq;cases hq
    |invoke r n=>rw[hc]at hq;cases hq
    | builtin b=>
      rw[hc]at hq ho
      cases b<;>first
        |(cases hq;done)
        |skip
      obtain⟨w,he⟩:=len_val ho
      cases he;rfl
theorem quiet_fp{s:St}{o:Oper}(hq:z0B o=true):∃rd,fpOf C s o=some (rd,[]):=by
  unfold z0B at hq
  unfold fpOf
  cases hop:o.op<;>rw[hop]at hq<;>dsimp only at hq⊢<;>first
    |(cases hq;done)
    |exact⟨_,rfl⟩
    |skip
  rename_i c
  cases hc:c.callee with
  |value f=>rw[hc]at hq;cases hq
  |invoke r n=>rw[hc]at hq;cases hq
  | builtin b=>
    rw[hc]at hq
    cases b<;>first
      |(cases hq;done)
      |skip
    cases ha:c.args.toList with
    |nil=>rw[ha]at hq;cases hq
    |cons x k=>exact⟨_,rfl⟩
theorem x6M{a b:FP}(ha:a.wr=some [])(hn:a.nl=a.nh)(hb:b.wr=some []):FP.hard a b=false:=by
  unfold FP.hard
  rw[ha,hb]
  have h1:∀r:List Nat,r.any (inR a.nl a.nh)=false:=fun r=>by
    rw[Y2n]
    intro x _
    unfold inR
    rw[hn]
    cases h2:Nat.ble a.nh x with
    |false=>simp
    | true=>
      have:=Y0J h2
      cases h3:Nat.blt x a.nh with
      |false=>simp
      |true=>have:=Y0J h3;omega
  cases b.rd with
  |none=>rfl
  |some r=>dsimp only;rw[h1];simp[overlap]
theorem x3V{a b:FP}(ha:a.wr=some [])(hn:a.nl=a.nh)(hb:b.wr=some []):FP.clash a b=false:=by unfold FP.clash;rw[x6M ha hn hb];rfl
theorem z1g{ms:List Nat}{b:FP}(hb:b.wr=some []):∀(l:List FP),(∀a∈l,a.wr=some []∧a.nl=a.nh)→q0n ms b l=true
  |[],_=>rfl
  | a::l,h=>by
    unfold q0n
    obtain⟨h1,h2⟩:=h a Y0T
    rw[x3V h1 h2 hb]
    exact z1g hb l fun x hx=>h x (Y0U _ hx)
end quiet
end Go.Ax
noncomputable section
namespace Go.Ax
variable{P:Program}{F:Nat→Option Obj}{gl:Nat→AV}{eqT:Knob}{C:Ctx}{n:Nat}{rd:Option Nat}{l l':Kn}{h h1:Hp}{ds:List ADef}{s:St}{Q Q':PQ}{all rest:List Oper}
def nix:Code→St→Res:=fun _ _=>none
theorem q0f:Sound P F nix:=fun _ _ _ _ h=>by cases h
def knSt(l:Kn)(h:Hp):St:={n:=0,tm:=knTr l,h:=h,ds:=[],rd:=none}
def knowns(l:Kn):List Operand→Bool
 |[]=>true
 | .tmp t::r=>bif (kn l t).isSome then knowns l r else false
 |_::r=>knowns l r
theorem q7U(hs:Atk s n rd l h ds):∀{xs:List Operand},knowns l xs=true→∀x∈xs,s.ev C x=(knSt l h).ev C x
  |[],_,x,hx=>by cases hx
  | y :: r,hk,x,hx=>by
    have two:knowns l r=true∧s.ev C y=(knSt l h).ev C y:=by
      cases y with
      | tmp t=>
        unfold knowns at hk
        cases ht:kn l t with
        |none=>rw[ht]at hk;cases hk
        | some v=>
          rw[ht]at hk
          refine⟨hk,?_⟩
          show tget s.tm t=tget (knTr l) t
          rw[hs.tm t v ht,z9v ht]
      |const v=>exact⟨hk,rfl⟩
      |global g=>exact⟨hk,rfl⟩
      |func f=>exact⟨hk,rfl⟩
    rcases Y2k.1 hx with rfl|hx
    ·exact two.2
    ·exact q7U hs two.1 x hx
def stops(o:Oper):Bool:=
 match o.op with
 | .call c=>(match c.callee with| .value _=>true| .invoke _ _=>true|_=>false)
 | .defer _=>true
 | .next _ _=>true
 |_=>false
def isVal:Option OpR→Bool
 |some (.val _ _)=>true
 |_=>false
def valOf:Option OpR→AV
 |some (.val v _)=>v
 |_=>.undef
def runK (P : Program) (C:Ctx) (n:Nat) (all:List Oper):List Oper→Kn→Hp→Option (Kn×Hp×List Oper)
  |[],l,h=>some (l,h,[])
  | o :: r, l,h=>if stops o=true then some (l,h,o::r)else match q6M all l o with
      |none=>none
      | some b=>if(o.guard.isSome&&z0B o)=true then
          (if knowns l o.op.operands.toList=true then
            (if(bif b then isVal (opA P C nix (knSt l h) o)else true)=true then
              (match o.dst with
              |some d=>if d<n then runK P C n all r ((d,bif b then valOf (opA P C nix (knSt l h) o)else .tup [])::l) h else none
              |none=>none)else none)else none)
        else match b with
        | false=>(match o.dst with
          |some d=>if d<n then runK P C n all r ((d,.tup [])::l) h else none
          |none=>runK P C n all r l h)
        | true=>if knowns l o.op.operands.toList=true then(match opA P C nix (knSt l h) o with
          | some (.val v h1)=>(match o.dst with
            |some d=>if d<n then runK P C n all r ((d,v)::l) h1 else none
            |none=>runK P C n all r l h1)
          |_=>none)else none
def goK(P:Program)(F:Nat→Option Obj)(all:List Oper)(n:Nat)(rd:Option Nat)(ds:List ADef)(Q:PQ):Option (Kn×Hp×List Oper)→Prop
 |some (l,h,[])=>Q .normal l h ds
 |some (l,h,o::r)=>TO P F all (o::r) n rd l h ds Q
 |none=>False
theorem TO.run (hP:POk P F gl eqT):∀{rest:List Oper} {l:Kn} {h:Hp},goK P F all n rd ds Q (runK P (Ctx.of P gl eqT) n all rest l h)→TO P F all rest n rd l h ds Q
  |[],l,h,hg=>.nil hg
  | o :: r, l, h,hg=>by
    have hod:∀{v h1},knowns l o.op.operands.toList=true→opA P (Ctx.of P gl eqT) nix (knSt l h) o=some (.val v h1)→OpT P F o n rd l h ds (fun u g=>u=v∧g=h1):=fun hk ho=>.det hP q0f fun s hs=>by
      rw[q7T (s':=knSt l h) hs.h (fun x hx=>q7U hs hk x (by simpa using hx))]
      exact ho
    unfold runK at hg
    split at hg
    ·exact hg
    split at hg
    ·cases hg
    · rename_i b hw
      split at hg
      · rename_i hq
        simp only[Y1X]at hq
        split at hg
        case isFalse=>cases hg
        rename_i hk
        split at hg
        case isFalse=>cases hg
        rename_i hv
        split at hg
        case h_2=>cases hg
        rename_i d hd
        split at hg
        case isFalse=>cases hg
        rename_i hb
        cases b with
        |false=>exact .left hw hd (Y1x hb) (.run hP hg)
        | true=>
          simp only[Y0V]at hv hg
          cases ho:opA P (Ctx.of P gl eqT) nix (knSt l h) o with
          |none=>rw[ho]at hv;cases hv
          | some x=>
            rw[ho]at hv hg
            cases x with
            | val v h1=>
              obtain rfl:=z4M hq.2 ho
              exact .step hw hd (Y1x hb) (hod hk ho) fun v' h' e=>by obtain⟨rfl,rfl⟩:=e;exact .run hP hg
            |push d=>cases hv
            |pan v h=>cases hv
      · split at hg
        · split at hg
          · rename_i d hd
            split at hg
            ·rename_i hb;exact .left hw hd (Y1x hb) (.run hP hg)
            ·cases hg
          ·rename_i hd;exact .left0 hw hd (.run hP hg)
        · split at hg
          case isFalse=>cases hg
          rename_i hk
          split at hg
          · rename_i v h1 ho
            split at hg
            · rename_i d hd
              split at hg
              · rename_i hb
                exact .step hw hd (Y1x hb) (hod hk ho) fun v' h' e=>by obtain⟨rfl,rfl⟩:=e;exact .run hP hg
              ·cases hg
            · rename_i hd
              exact .step0 hw hd (hod hk ho) fun v' h' e=>by obtain⟨rfl,rfl⟩:=e;exact .run hP hg
          ·cases hg
theorem TW.reg(hP:POk P F gl eqT){id:Nat}{ops:Array Oper}{r:Option (Kn×Hp×List Oper)}(hr:runK P (Ctx.of P gl eqT) n ops.toList ops.toList l h=r)(hg:goK P F ops.toList n rd ds Q r):TW P F (.region id ops false) n rd l h ds Q:=by
 subst hr
 exact .region (.run hP hg)
abbrev Y2A:=@TW.reg
theorem TO.runs(hP:POk P F gl eqT){r:Option (Kn×Hp×List Oper)}(hr:runK P (Ctx.of P gl eqT) n all rest l h=r)(hg:goK P F all n rd ds Q r):TO P F all rest n rd l h ds Q:=by
 subst hr
 exact .run hP hg
abbrev Y2B:=@TO.runs
theorem TO.ucall(hP:POk P F gl eqT){g:FuncId}{x:Operand}{aas:Array Operand}{ts:Array TypeId}{d:Nat}{ty:TypeId}{pos:String}{aft:Array Edge}{gd:Option (Nat×Bool)}{first cap vs:List AV}{O:AV→Hp→Prop}
  (hw:q6M all l ⟨some d,.call {callee:=.value x,args:=aas,argTypes:=ts},ty,pos,aft,gd⟩=some true) (hb:Nat.blt d n=true)
  (hx:evK (Ctx.of P gl eqT) l x=some (.fn (.func g) first cap)) (ha:evsK (Ctx.of P gl eqT) l aas.toList=some vs) (hf:IsFn P g) (hc:CallsT P F h O g (first++vs++cap))
  (k:∀v h',O v h'→TO P F all rest n rd ((d,v)::l) h' ds Q):TO P F all (⟨some d,.call {callee:=.value x,args:=aas,argTypes:=ts},ty,pos,aft,gd⟩::rest) n rd l h ds Q:=
 .step hw rfl hb (.call hP hx ha hf hc) k
variable{ih:Code→St→Res}{dd:Option Nat}{ty t u:TypeId}{pos:String}{aft:Array Edge}{gd:Option (Nat×Bool)}{x y z:Operand}{k:Nat}
theorem kn_nil:kn [] k=none:=rfl
theorem x3a{i:Nat}{v:AV}:kn ((i,v)::l) k=if i=k then some v else kn l k:=by
 show(bif Nat.beq i k then some v else kn l k)=_
 by_cases hik:i=k
 ·subst hik;rw[Y1o,Y0e rfl];rfl
 ·rw[Y0c hik]
  cases hb:Nat.beq i k with
  |true=>exact absurd (Y0P hb) hik
  |false=>rfl
theorem x8j:∀{l:Kn},tget (knTr l) k=(kn l k).getD (.tup [])
  |[]=>rfl
  | (i,v)::l=>by
    show tget ((knTr l).set i v) k=_
    rw[q4o,x3a]
    by_cases h:i=k
    ·rw[Y0e h,Y0e h];rfl
    ·rw[Y0c h,Y0c h];exact x8j
theorem ev_tmp:(knSt l h).ev C (.tmp k)=(kn l k).getD (.tup []):=x8j
theorem ev_const{v:Value}:(knSt l h).ev C (.const v)=ofV v:=rfl
theorem ev_global{g:Nat}:(knSt l h).ev C (.global g)=C.gl g:=rfl
theorem ev_func{g:Nat}:(knSt l h).ev C (.func g)= .fn (.func g) [] []:=rfl
theorem knSt_h:(knSt l h).h=h:=rfl
theorem a_move:opA P C ih s ⟨dd,.move x,ty,pos,aft,gd⟩=some (.val (s.ev C x) s.h):=rfl
theorem a_assign:opA P C ih s ⟨dd,.assign x,ty,pos,aft,gd⟩=some (.val (s.ev C x) s.h):=rfl
theorem a_pick:opA P C ih s ⟨dd,.pick x y z,ty,pos,aft,gd⟩=(match s.ev C x with| .bool t=>some (.val (bif t then s.ev C y else s.ev C z) s.h)|_=>none):=rfl
theorem a_alloc:opA P C ih s ⟨dd,.alloc t,ty,pos,aft,gd⟩=(alloc C t s.h).map fun x=>.val x.1 x.2:=by show ov _ _=_;cases alloc C t s.h<;>rfl
theorem a_box:opA P C ih s ⟨dd,.box t x,ty,pos,aft,gd⟩=(box t (s.ev C x) s.h).map fun x=>.val x.1 x.2:=by show ov _ _=_;cases box t (s.ev C x) s.h<;>rfl
theorem a_load:opA P C ih s ⟨dd,.load t x,ty,pos,aft,gd⟩=(loadAt C t (s.ev C x) s.h).map fun v=>.val v s.h:=by show ov _ _=_;cases loadAt C t (s.ev C x) s.h<;>rfl
theorem a_store:opA P C ih s ⟨dd,.store t x y,ty,pos,aft,gd⟩=(storeAt C t (s.ev C x) (s.ev C y) s.h).map fun h=>.val .undef h:=by show ov _ _=_;cases storeAt C t (s.ev C x) (s.ev C y) s.h<;>rfl
theorem x4n:opA P C ih s ⟨dd,.fieldAddr t x k,ty,pos,aft,gd⟩=(fieldAt C t (s.ev C x) k).map fun v=>.val v s.h:=by show ov _ _=_;cases fieldAt C t (s.ev C x) k<;>rfl
theorem a_field:opA P C ih s ⟨dd,.field t x k,ty,pos,aft,gd⟩=(z4H C t (s.ev C x) k).map fun v=>.val v s.h:=by show ov _ _=_;cases z4H C t (s.ev C x) k<;>rfl
theorem x4m:opA P C ih s ⟨dd,.indexAddr t x y,ty,pos,aft,gd⟩=(indexAt C t (s.ev C x) (s.ev C y)).map fun v=>.val v s.h:=by show ov _ _=_;cases indexAt C t (s.ev C x) (s.ev C y)<;>rfl
theorem a_unOp{o:UnOp}:opA P C ih s ⟨dd,.unOp o t x,ty,pos,aft,gd⟩=(x5A o (s.ev C x)).map fun v=>.val v s.h:=by show ov _ _=_;cases x5A o (s.ev C x)<;>rfl
theorem a_extract:opA P C ih s ⟨dd,.extract x k,ty,pos,aft,gd⟩=(match s.ev C x with| .tup vs=>(vs[k]?).map fun v=>.val v s.h|_=>none):=by
 show(match s.ev C x with| .tup vs=>ov _ (vs[k]?)|_=>none)=_
 cases s.ev C x<;>first|rfl|(rename_i vs;show ov _ (vs[k]?)=_;cases vs[k]? <;>rfl)
theorem a_len{ts:List TypeId}:opA P C ih s ⟨dd,.call {callee:=.builtin .len,args:= #[x],argTypes:=⟨t::ts⟩},ty,pos,aft,gd⟩=(q2S C t (s.ev C x) s.h).map fun v=>.val v s.h:=by
 show(match q2S C t (s.ev C x) s.h with|some v=>some (OpR.val v s.h)|none=>none)=_
 cases q2S C t (s.ev C x) s.h<;>rfl
def binV(C:Ctx)(o:BinOp)(t:TypeId)(x y:Operand)(p q:AV)(h:Hp):Option OpR:=
 match p,q with
 | .nilif,.nilif=>(match o,z1v x||z1v y,C.ti t with
   | .eql,true,some ti=>(match ti.desc with| .interface _=>some (.val (.bool true) h)|_=>none)
   | .neq,true,some ti=>(match ti.desc with| .interface _=>some (.val (.bool false) h)|_=>none)
   |_,_,_=>none)
 |p,q=>(q0B C o t p q).map fun v=>.val v h
theorem a_bin{o:BinOp}:opA P C ih s ⟨dd,.binOp o t x y u,ty,pos,aft,gd⟩=binV C o t x y (s.ev C x) (s.ev C y) s.h:=by
 generalize hp:s.ev C x=p
 generalize hq:s.ev C y=q
 have:∀r:Option AV,ov (fun x=>OpR.val x s.h) r=r.map fun v=>OpR.val v s.h:=fun r=>by cases r<;>rfl
 unfold opA
 dsimp only
 rw[hp,hq]
 unfold binV
 cases p<;>cases q<;>first|rfl|exact this _
section
variable{o:BinOp}{q:AV}{x y:Operand}
theorem binV_int{k:IntKind}{a:Int}:binV C o t x y (.int k a) q h=(q0B C o t (.int k a) q).map fun v=>.val v h:=rfl
theorem binV_bool{b:Bool}:binV C o t x y (.bool b) q h=(q0B C o t (.bool b) q).map fun v=>.val v h:=rfl
theorem binV_str{b:List Nat}:binV C o t x y (.str b) q h=(q0B C o t (.str b) q).map fun v=>.val v h:=rfl
theorem binV_agg{b:List AV}:binV C o t x y (.agg b) q h=(q0B C o t (.agg b) q).map fun v=>.val v h:=rfl
theorem x7d{u:TypeId}{b:AV}:binV C o t x y (.iface u b) q h=(q0B C o t (.iface u b) q).map fun v=>.val v h:=rfl
theorem binV_raw{b:Value}:binV C o t x y (.raw b) q h=(q0B C o t (.raw b) q).map fun v=>.val v h:=rfl
theorem x4g:binV C o t x y .nilptr q h=(q0B C o t .nilptr q).map fun v=>.val v h:=rfl
theorem binV_ptr{a b:Nat}:binV C o t x y (.ptr a b) q h=(q0B C o t (.ptr a b) q).map fun v=>.val v h:=rfl
theorem x7b:binV C o t x y .nilsl q h=(q0B C o t .nilsl q).map fun v=>.val v h:=rfl
theorem binV_isl{a:List (List AV)}:binV C o t x y (.isl a) q h=(q0B C o t (.isl a) q).map fun v=>.val v h:=rfl
theorem binV_sl{r a b c d:Nat}{e:Bool}:binV C o t x y (.sl r a b c d e) q h=(q0B C o t (.sl r a b c d e) q).map fun v=>.val v h:=rfl
theorem binV_fn{f:Fn}{a b:List AV}:binV C o t x y (.fn f a b) q h=(q0B C o t (.fn f a b) q).map fun v=>.val v h:=rfl
theorem x7c:binV C o t x y .nilfn q h=(q0B C o t .nilfn q).map fun v=>.val v h:=rfl
theorem z8d{u:TypeId}{b:AV}:binV C o t x y .nilif (.iface u b) h=(q0B C o t .nilif (.iface u b)).map fun v=>.val v h:=rfl
end
attribute [simp] binV_int binV_bool binV_str binV_agg x7d binV_raw x4g binV_ptr x7b binV_isl binV_sl binV_fn x7c z8d
end Go.Ax
noncomputable section
namespace Go.Ax
variable{P:Program}{C:Ctx}{n:Nat}{l:Kn}{h:Hp}{o:AObj}{r s k:Nat}{a b:Int}
theorem nx_h0:h0.nx=0:=rfl
theorem nx_put:(h.put r o).nx=h.nx:=rfl
theorem get_new:(h.new o).get r=if h.nx=r then some o else h.get r:=Y0x h o r
theorem get_put:(h.put s o).get r=if s=r then some o else h.get r:=Y0y h s o r
theorem nx_new:(h.new o).nx=h.nx+1:=rfl
theorem z4O{q:IntKind}:q6t (.int q (k:Int))=some k:=rfl
theorem natOf_lit{q:IntKind}:q6t (.int q (OfNat.ofNat k))=some k:=rfl
theorem z6y:q2s .i64 .i64=true:=rfl
theorem x2L:q2s .u8 .u8=true:=rfl
theorem bLss_i64{t:TypeId}:q0B C .lss t (.int .i64 a) (.int .i64 b)=some (.bool (decide (a<b))):=by
 show(bif q2s .i64 .i64 then some (AV.bool (ltI a b))else none)=_;rw[z6y,q7P];rfl
theorem bLeq_i64{t:TypeId}:q0B C .leq t (.int .i64 a) (.int .i64 b)=some (.bool (decide (a≤b))):=by
 show(bif q2s .i64 .i64 then some (AV.bool (!ltI b a))else none)=_;rw[z6y,q7P]
 have:(!decide (b<a))=decide (a≤b):=by by_cases h:a≤b<;>simp[h]<;>omega
 rw[this];rfl
theorem bGtr_i64{t:TypeId}:q0B C .gtr t (.int .i64 a) (.int .i64 b)=some (.bool (decide (b<a))):=by
 show(bif q2s .i64 .i64 then some (AV.bool (ltI b a))else none)=_;rw[z6y,q7P];rfl
theorem bGeq_i64{t:TypeId}:q0B C .geq t (.int .i64 a) (.int .i64 b)=some (.bool (decide (b≤a))):=by
 show(bif q2s .i64 .i64 then some (AV.bool (!ltI a b))else none)=_;rw[z6y,q7P]
 have:(!decide (a<b))=decide (b≤a):=by by_cases h:b≤a<;>simp[h]<;>omega
 rw[this];rfl
theorem bEql_i64{t:TypeId}:q0B C .eql t (.int .i64 a) (.int .i64 b)=some (.bool (decide (a=b))):=by
 show(bif q2s .i64 .i64 then some (AV.bool (eqI a b))else none)=_;rw[z6y,q7R];rfl
theorem bNeq_i64{t:TypeId}:q0B C .neq t (.int .i64 a) (.int .i64 b)=some (.bool (!decide (a=b))):=by
 show(bif q2s .i64 .i64 then some (AV.bool (!eqI a b))else none)=_;rw[z6y,q7R];rfl
theorem bLss_u8{t:TypeId}:q0B C .lss t (.int .u8 a) (.int .u8 b)=some (.bool (decide (a<b))):=by
 show(bif q2s .u8 .u8 then some (AV.bool (ltI a b))else none)=_;rw[x2L,q7P];rfl
theorem bLeq_u8{t:TypeId}:q0B C .leq t (.int .u8 a) (.int .u8 b)=some (.bool (decide (a≤b))):=by
 show(bif q2s .u8 .u8 then some (AV.bool (!ltI b a))else none)=_;rw[x2L,q7P]
 have:(!decide (b<a))=decide (a≤b):=by by_cases h:a≤b<;>simp[h]<;>omega
 rw[this];rfl
theorem bGtr_u8{t:TypeId}:q0B C .gtr t (.int .u8 a) (.int .u8 b)=some (.bool (decide (b<a))):=by
 show(bif q2s .u8 .u8 then some (AV.bool (ltI b a))else none)=_;rw[x2L,q7P];rfl
theorem bGeq_u8{t:TypeId}:q0B C .geq t (.int .u8 a) (.int .u8 b)=some (.bool (decide (b≤a))):=by
 show(bif q2s .u8 .u8 then some (AV.bool (!ltI a b))else none)=_;rw[x2L,q7P]
 have:(!decide (a<b))=decide (b≤a):=by by_cases h:b≤a<;>simp[h]<;>omega
 rw[this];rfl
theorem bEql_u8{t:TypeId}:q0B C .eql t (.int .u8 a) (.int .u8 b)=some (.bool (decide (a=b))):=by
 show(bif q2s .u8 .u8 then some (AV.bool (eqI a b))else none)=_;rw[x2L,q7R];rfl
theorem bNeq_u8{t:TypeId}:q0B C .neq t (.int .u8 a) (.int .u8 b)=some (.bool (!decide (a=b))):=by
 show(bif q2s .u8 .u8 then some (AV.bool (!eqI a b))else none)=_;rw[x2L,q7R];rfl
theorem wrap_i64(h1: -9223372036854775808≤a)(h2:a≤9223372036854775807):q9r .i64 a=a:=by
 rw[q8t,IntKind.wrap_i64];omega
theorem bAdd{t:TypeId}(h1: -9223372036854775808≤a+b)(h2:a+b≤9223372036854775807):q0B C .add t (.int .i64 a) (.int .i64 b)=some (.int .i64 (a+b)):=by
 show some (AV.int .i64 (q9r .i64 (addI a b)))=_;rw[x3c,wrap_i64 h1 h2]
theorem bSub{t:TypeId}(h1: -9223372036854775808≤a-b)(h2:a-b≤9223372036854775807):q0B C .sub t (.int .i64 a) (.int .i64 b)=some (.int .i64 (a-b)):=by
 show some (AV.int .i64 (q9r .i64 (subI a b)))=_;rw[z9a,wrap_i64 h1 h2]
section more
variable{ih:Code→St→Res}{st:St}{dd:Option Nat}{ty t u:TypeId}{pos:String}{aft:Array Edge}{gd:Option (Nat×Bool)}{x y z:Operand}
theorem z8o{α:Type}{f:α→OpR}{v:Option α}:ov f v=v.map f:=by cases v<;>rfl
theorem x7k{g:FuncId}{aas bs:Array Operand}:opA P C ih st ⟨dd,.makeFunc (.func g) aas bs,ty,pos,aft,gd⟩=some (.val (.fn (.func g) (allA C st aas.toList) (allA C st bs.toList)) st.h):=rfl
theorem x7j:opA P C ih st ⟨dd,.nilCheck x,ty,pos,aft,gd⟩=(match st.ev C x with| .ptr r o=>some (.val (.ptr r o) st.h)| .iptr xs i o=>some (.val (.iptr xs i o) st.h)| .fn (.func f) a b=>some (.val (.fn (.func f) a b) st.h)| .fn (.yield f) a b=>some (.val (.fn (.yield f) a b) st.h)|_=>none):=rfl
theorem a_convert:opA P C ih st ⟨dd,.convert t u x,ty,pos,aft,gd⟩=(bif q3I (st.ev C x)then(x2P C t u (st.ev C x) st.h).map fun v=>.val v st.h else(q8n C t u (st.ev C x)).map fun v=>.val v st.h):=by
 show(bif q3I (st.ev C x)then ov _ (x2P C t u (st.ev C x) st.h)else ov _ (q8n C t u (st.ev C x)))=_
 rw[z8o,z8o]
theorem x4l:opA P C ih st ⟨dd,.makeSlice t x y,ty,pos,aft,gd⟩=(makeSlice C t (st.ev C x) (st.ev C y) st.h).map fun r=>.val r.1 r.2:=z8o
theorem a_slice{lo hi mx:Option Operand}:opA P C ih st ⟨dd,.slice t x lo hi mx,ty,pos,aft,gd⟩=(q2t C t (st.ev C x) (lo.map (st.ev C)) (hi.map (st.ev C)) (mx.map (st.ev C)) st.h).map fun v=>.val v st.h:=z8o
theorem a_lookup{ok:Bool}:opA P C ih st ⟨dd,.lookup t x y ok,ty,pos,aft,gd⟩=(q3b C t (st.ev C x) (st.ev C y) ok st.h).map fun v=>.val v st.h:=z8o
theorem a_min{ts:Array TypeId}:opA P C ih st ⟨dd,.call {callee:=.builtin .min,args:= #[x,y],argTypes:=ts},ty,pos,aft,gd⟩=q4p C .min ts.toList [st.ev C x,st.ev C y] st.h:=rfl
theorem a_max{ts:Array TypeId}:opA P C ih st ⟨dd,.call {callee:=.builtin .max,args:= #[x,y],argTypes:=ts},ty,pos,aft,gd⟩=q4p C .max ts.toList [st.ev C x,st.ev C y] st.h:=rfl
end more
attribute [simp] x7k x7j a_convert x4l a_slice a_lookup a_min a_max allA
section places
variable{t:TypeId}{xs:List (List AV)}{i j o len cap es:Nat}{ex:Bool}{ix:AV}
theorem x6x:loadAt C t (.ptr r o) h=(match C.ti t with|none=>none|some ti=>(match h.get r with|some (.cells _ cs)=>q2r ti cs o|_=>none)):=rfl
theorem x3E:loadAt C t (.iptr xs i o) h=(match C.ti t with|none=>none|some ti=>(match xs[i]? with|some cs=>q2r ti cs o|none=>none)):=rfl
theorem x3K:indexAt C t (.isl xs) ix=(match C.ti t,q6t ix with
  |some ti,some i=>(match ti.desc with| .slice e=>(match C.ti e,xs[i]? with|some y,some ch=>bif Nat.beq y.size ch.length then some (.iptr xs i 0)else none|_,_=>none)|_=>none)
  |_,_=>none):=by
  unfold indexAt
  cases C.ti t with
  |none=>rfl
  | some ti=>cases q6t ix with
    |none=>rfl
    |some i=>dsimp only;cases ti.desc<;>rfl
theorem x6L:indexAt C t (.sl r o len cap es ex) ix=(match C.ti t,q6t ix with
  |some ti,some i=>(match ti.desc with| .slice e=>(match C.ti e with|some y=>bif Nat.blt i len&&Nat.beq y.size es then some (.ptr r (Nat.add o (Nat.mul i es)))else none|none=>none)|_=>none)
  |_,_=>none):=by
  unfold indexAt
  cases C.ti t with
  |none=>rfl
  | some ti=>cases q6t ix with
    |none=>rfl
    |some i=>dsimp only;cases ti.desc<;>rfl
theorem x3J:indexAt C t (.ptr r o) ix=(match C.ti t,q6t ix with
  |some ti,some i=>(match ti.desc with| .array len e=>(match C.ti e with|some y=>bif Nat.blt i len then some (.ptr r (Nat.add o (Nat.mul i y.size)))else none|none=>none)|_=>none)
  |_,_=>none):=by
  unfold indexAt
  cases C.ti t with
  |none=>rfl
  | some ti=>cases q6t ix with
    |none=>rfl
    |some i=>dsimp only;cases ti.desc<;>rfl
theorem x1X:indexAt C t (.iptr xs j o) ix=(match C.ti t,q6t ix with
  |some ti,some i=>(match ti.desc with| .array len e=>(match C.ti e with|some y=>bif Nat.blt i len then some (.iptr xs j (Nat.add o (Nat.mul i y.size)))else none|none=>none)|_=>none)
  |_,_=>none):=by
  unfold indexAt
  cases C.ti t with
  |none=>rfl
  | some ti=>cases q6t ix with
    |none=>rfl
    |some i=>dsimp only;cases ti.desc<;>rfl
end places
theorem z6K{a b:Nat}:Nat.beq a b=decide (a=b):=by
 by_cases h:a=b
 ·subst h;simp
 ·rw[Y2F h];cases hb:Nat.beq a b with
  |true=>exact absurd (Y0P hb) h
  |false=>rfl
theorem q3m{a b:Nat}:Nat.ble a b=decide (a≤b):=by
 by_cases h:a≤b
 ·rw[Y2G h];exact Y1x h
 ·rw[Y2F h];cases hb:Nat.ble a b with
  |true=>exact absurd (Y0J hb) h
  |false=>rfl
theorem blt_dec{a b:Nat}:Nat.blt a b=decide (a<b):=q3m
theorem x3G(b:Bool):q1f (.bool b)=true:=rfl
theorem x2f(b:Bool):cellsOf (.bool b)=some [.bool b]:=rfl
theorem x6J(q:IntKind)(n:Int):q1f (.int q n)=true:=rfl
theorem x4d(q:IntKind)(n:Int):cellsOf (.int q n)=some [.int q n]:=rfl
theorem x6F(s:List Nat):q1f (.str s)=true:=rfl
theorem x3Z(s:List Nat):cellsOf (.str s)=some [.str s]:=rfl
theorem z9S:q1f (.nilptr)=true:=rfl
theorem z7Z:cellsOf (.nilptr)=some [.nilptr]:=rfl
theorem x6G(r o:Nat):q1f (.ptr r o)=true:=rfl
theorem x4a(r o:Nat):cellsOf (.ptr r o)=some [.ptr r o]:=rfl
theorem x1T:q1f (.nilsl)=true:=rfl
theorem z9Z:cellsOf (.nilsl)=some [.nilsl]:=rfl
theorem isCell_sl(r o len cap es:Nat)(x:Bool):q1f (.sl r o len cap es x)=true:=rfl
theorem x6Y(r o len cap es:Nat)(x:Bool):cellsOf (.sl r o len cap es x)=some [.sl r o len cap es x]:=rfl
theorem x6I(xs:List (List AV)):q1f (.isl xs)=true:=rfl
theorem x4c(xs:List (List AV)):cellsOf (.isl xs)=some [.isl xs]:=rfl
theorem x3F(xs:List (List AV))(i o:Nat):q1f (.iptr xs i o)=true:=rfl
theorem x2e(xs:List (List AV))(i o:Nat):cellsOf (.iptr xs i o)=some [.iptr xs i o]:=rfl
theorem z9T:q1f (.nilmap)=true:=rfl
theorem z8a:cellsOf (.nilmap)=some [.nilmap]:=rfl
theorem x6H(r:Nat):q1f (.map r)=true:=rfl
theorem x4b(r:Nat):cellsOf (.map r)=some [.map r]:=rfl
theorem isCell_fn(f:Fn)(a c:List AV):q1f (.fn f a c)=true:=rfl
theorem x6Z(f:Fn)(a c:List AV):cellsOf (.fn f a c)=some [.fn f a c]:=rfl
theorem x1V:q1f (.nilfn)=true:=rfl
theorem x0b:cellsOf (.nilfn)=some [.nilfn]:=rfl
theorem x1W(t:TypeId)(v:AV):q1f (.iface t v)=true:=rfl
theorem x0c(t:TypeId)(v:AV):cellsOf (.iface t v)=some [.iface t v]:=rfl
theorem x1U:q1f (.nilif)=true:=rfl
theorem x0a:cellsOf (.nilif)=some [.nilif]:=rfl
theorem x4e(cs:List AV):cellsOf (.agg cs)=some cs:=rfl
attribute [simp] x3G x2f x6J x4d x6F x3Z z9S z7Z x6G x4a x1T z9Z isCell_sl x6Y x6I x4c x3F x2e z9T z8a x6H x4b isCell_fn x6Z x1V x0b x1W x0c x1U x0a x4e
attribute [simp] z6K q3m blt_dec runK stops q6M knowns Op.operands Call.operands x5F x3a kn_nil a_move a_pick a_box a_assign a_load a_store a_alloc x4n a_field x4m a_unOp a_extract a_len a_bin ev_tmp ev_const ev_global ev_func knSt_h box nx_h0 nx_new nx_put get_new get_put ofV ofVs x6x x3E storeAt alloc fieldAt z4H x3K x6L x3J x1X z9f q2r sub q1h z4O natOf_lit bLss_i64 bLeq_i64 bGtr_i64 bGeq_i64 bEql_i64 bNeq_i64 bLss_u8 bLeq_u8 bGtr_u8 bGeq_u8 bEql_u8 bNeq_u8 bAdd bSub z6y x2L x5A evK evsK resK q2k q0q
def q0d{ι:Type}(K:ι→Kn)(H:ι→Hp→Prop)(μ:ι→Nat)(x:ι)(ds:List ADef)(Q:PQ):PQ
 | .normal,l,h,ds'=>∃y,μ y<μ x∧ds'=ds∧Less l (K y)∧H y h
 |e,l,h,ds'=>Q e l h ds'
theorem TW.loopL{P:Program}{F:Nat→Option Obj}{c:Code}{n:Nat}{rd:Option Nat}{l:Kn}{h:Hp}{ds:List ADef}{Q:PQ}{ι:Type}(K:ι→Kn)(H:ι→Hp→Prop)(μ:ι→Nat)(x0:ι)
    (hl:Less l (K x0)) (h0:H x0 h) (hI:∀x h,H x h→TW P F c n rd (K x) h ds (q0d K H μ x ds Q)):TW P F (.loop c) n rd l h ds Q:=by
  refine TW.loop (I:=fun j l h ds'=>∃x,j=μ x∧ds'=ds∧Less l (K x)∧H x h) ⟨x0,rfl,rfl,hl,h0⟩ ?_
  rintro j l h ds' ⟨x,rfl,rfl,hl,hH⟩
  refine(hI x h hH).less hl|>.mono fun e l' h' ds'' hq=> ?_
  cases e with
  | normal=>
    obtain⟨y,h1,h2,h3,h4⟩:=hq
    exact⟨μ y,h1,y,rfl,h2,h3,h4⟩
  |goto i=>exact hq
  |exit i=>exact hq
  |ret=>exact hq
  |panic hv=>exact hq
abbrev Y2H:=@TW.loopL
theorem TW.condT{P:Program}{F:Nat→Option Obj}{gl:Nat→AV}{K:Knob}{n:Nat}{rd:Option Nat}{l:Kn}{h:Hp}{ds:List ADef}{Q:PQ}(hP:POk P F gl K){x:Operand}{p q:Code}(hx:evK (Ctx.of P gl K) l x=some (.bool true))(ht:TW P F p n rd l h ds Q):TW P F (.cond x p q) n rd l h ds Q:=
 .cond hP hx (fun _=>ht) (fun e=>by cases e)
abbrev Y2I:=@TW.condT
theorem TW.condF{P:Program}{F:Nat→Option Obj}{gl:Nat→AV}{K:Knob}{n:Nat}{rd:Option Nat}{l:Kn}{h:Hp}{ds:List ADef}{Q:PQ}(hP:POk P F gl K){x:Operand}{p q:Code}(hx:evK (Ctx.of P gl K) l x=some (.bool false))(ht:TW P F q n rd l h ds Q):TW P F (.cond x p q) n rd l h ds Q:=
 .cond hP hx (fun e=>by cases e) (fun _=>ht)
abbrev Y2J:=@TW.condF
theorem cond_cg{α:Type}{b b':Bool}{x x' y y':α}(h:b=b')(hx:b'=true→x=x')(hy:b'=false→y=y'):(bif b then x else y)=(bif b' then x' else y'):=by
 subst h
 cases b with
 |true=>exact hx rfl
 |false=>exact hy rfl
theorem x5K{b w:Bool}:wantV (.bool b) w=some (b==w):=rfl
theorem x8C{l:List AV}{w:Bool}:wantV (.tup l) w=some false:=rfl
theorem bool_cond{b x y:Bool}:(bif b then AV.bool x else AV.bool y)=AV.bool (bif b then x else y):=by cases b<;>rfl
theorem x6D{v:AV}{h:Hp}:isVal (some (.val v h))=true:=rfl
theorem x5M{v:AV}{h:Hp}:valOf (some (.val v h))=v:=rfl
theorem cond_same{α:Type}{b:Bool}{x y z:α}:(bif b then(bif b then x else y)else z)=(bif b then x else z):=by cases b<;>rfl
attribute [simp] cond_same
attribute [congr] cond_cg
attribute [simp] x5K x8C bool_cond x6D x5M
end Go.Ax
noncomputable section
namespace Go.Ax
def orcT(K:Knob):List (FuncId×List AV×AV)→FuncId→List AV→Option AV
 |[],f,args=>K.orc f args
 |(g,aas,v)::r,f,args=>open Classical in if f=g∧args=aas then some v else orcT K r f args
def Knob.tell(K:Knob)(T:List (FuncId×List AV×AV)):Knob:={K with orc:=orcT K T}
variable{P:Program}{F:Nat→Option Obj}{gl:Nat→AV}{K:Knob}{C:Ctx}{n:Nat}{rd:Option Nat}{l l':Kn}{h h1:Hp}{ds:List ADef}{s:St}{Q Q':PQ}{all rest:List Oper}{T:List (FuncId×List AV×AV)}
theorem x0W(hP:∀f args v,K.orc f args=some v→PureC P F f args v):∀{T:List (FuncId×List AV×AV)},(∀e∈T,PureC P F e.1 e.2.1 e.2.2)→∀f args v,orcT K T f args=some v→PureC P F f args v
  |[],_,f,args,v,h=>hP f args v h
  | (g,aas,u)::r,hT,f,args,v,h=>by
    unfold orcT at h
    split at h
    · rename_i e
      obtain⟨rfl,rfl⟩:=e
      cases h
      exact hT _ Y0T
    ·exact x0W hP (fun e he=>hT e (Y0U _ he)) f args v h
theorem x4W(hP:POk P F gl K)(hT:∀e∈T,PureC P F e.1 e.2.1 e.2.2):POk P F gl (K.tell T):=
 ⟨⟨hP.eq.held,hP.eq.guard,hP.eq.names⟩,hP.glob,hP.names,hP.mixed,x0W hP.orc hT,hP.ext,hP.prim⟩
def Hp.z(h:Hp):Hp:={nx:=h.nx,m:=h.m,lo:=0}
theorem q4G{r:Nat}:h.z.get r=h.get r:=rfl
theorem nx_z:h.z.nx=h.nx:=rfl
attribute [simp] q4G nx_z
theorem HRel.z{m:Loc}{w:World}(hr:HRel P F m h w):HRel P F m h.z w:=⟨hr.obj,hr.inj,hr.out,hr.frz,hr.wf⟩
theorem TPost.z{m:Loc}{w:World}{x:Exit}{a:Act}{w':World}(hp:TPost P F n rd m h.z w Q x a w'):TPost P F n rd m h w Q x a w':=by
 obtain⟨e,s',l',h',ds',q,hs,hle,m',hx,hst,ha⟩:=hp
 exact⟨e,s',l',h',ds',q,hs,⟨hle.nx,Y0C hle.lo (Y0E _),fun r _ h2=>absurd (Y0D h2 hle.lo) (Y2K _),hle.wf⟩,m',hx,
  ⟨hst.le,hst.new,hst.rel,hst.same,hst.size,hst.old,hst.nx,hst.keep,hst.mnew,hst.fnew⟩,ha⟩
theorem TW.z{c:Code}(ht:TW P F c n rd l h.z ds Q):TW P F c n rd l h ds Q:=fun s hs m a w fe k hr ha hf hF=>
 wpIn_mono (ht {s with h:=h.z} ⟨hs.n,rfl,hs.ds,hs.rd,hs.tm⟩ m a w fe k hr.z ⟨ha.tm,ha.ds⟩ hf hF) fun _ _ _ hp=>hp.z
def z5o(o:Oper):Option (Operand×List Operand):=
 match o.op with
 | .call c=>(match c.callee with| .value f=>some (f,c.args.toList)|_=>none)
 |_=>none
def runQ (P :Program) (C:Ctx) (n:Nat) (all:List Oper):List Oper→Kn→Hp→Option Kn
  |[],l,_=>some l
  | o :: r, l,h=>match q6M all l o with
    |none=>none
    | some false=>(match o.dst with
      |some d=>if d<n then runQ P C n all r ((d,.tup [])::l) h else none
      |none=>runQ P C n all r l h)
    | some true=>match z5o o with
      | some (x,aas)=>(match evK C l x,evsK C l aas with
        | some (.fn (.func g) first cap),some vs=>(match C.ext g (first++vs++cap),C.fn.get g,C.orc g (first++vs++cap)with
          | none,some fn,some v=>if fn.body.isSome=true then(match o.dst with
            |some d=>if d<n then runQ P C n all r ((d,v)::l) h else none
            |none=>runQ P C n all r l h)else none
          |_,_,_=>none)
        |_,_=>none)
      | none=>if z0B o=true then(if knowns l o.op.operands.toList=true then(match opA P C nix (knSt l h) o with
          | some (.val v _)=>(match o.dst with
            |some d=>if d<n then runQ P C n all r ((d,v)::l) h else none
            |none=>runQ P C n all r l h)
          |_=>none)else none)else none
theorem x4R{s:St}{o:Oper}{v:AV}(i:Nat)(ms:List Nat)(fps:List FP)(hf:∀f∈fps,f.wr=some []∧f.nl=f.nh)(_hlo:s.h.lo=0)
  (_ho:opA P C nix {s with h:={s.h with lo:=s.h.nx}} o=some (.val v {s.h with lo:=s.h.nx})) (hfp:fpOf C s o=none∨∃r,fpOf C s o=some (r,[])):
  ∃fps',q0V ms (fpAt C s o i {s.h with lo:=s.h.nx}) fps=some fps'∧∀f∈fps',f.wr=some []∧f.nl=f.nh:=by
 have hw:(fpAt C s o i {s.h with lo:=s.h.nx}).wr=some []∧(fpAt C s o i {s.h with lo:=s.h.nx}).nl=(fpAt C s o i {s.h with lo:=s.h.nx}).nh:=by
  unfold fpAt
  rcases hfp with h|⟨r,h⟩
  ·rw[h];refine⟨?_,rfl⟩
   show(bif Nat.ble s.h.nx s.h.nx then some []else none)=some []
   rw[Y1x (Y0u _)];rfl
  ·rw[h];exact⟨rfl,rfl⟩
 generalize fpAt C s o i {s.h with lo:=s.h.nx}=f at hw
 obtain⟨h1,h2⟩:=hw
 unfold q0V
 split
 ·rw[h2]
  cases Nat.blt f.nh f.nh with
  |true=>exact⟨_,rfl,fun g hm=>(Y2k.1 hm).elim (fun e=>by subst e;exact⟨h1,h2⟩) (hf g)⟩
  |false=>exact⟨_,rfl,hf⟩
 ·rw[z1g h1 fps hf]
  exact⟨_,rfl,fun g hm=>(Y2k.1 hm).elim (fun e=>by subst e;exact⟨h1,h2⟩) (hf g)⟩
theorem x1h{g:Hp}(hlo:g.lo=0):({nx:=g.nx,m:=g.m,lo:=bif Nat.ble g.lo g.nx then g.lo else g.nx}:Hp)=g:=by
 cases g;simp only at hlo;subst hlo;rfl
theorem z6O{ms:List Nat}:∀(rest:List Oper) (i:Nat) (fps:List FP) (l:Kn) (s:St) (l':Kn),(∀f∈fps,f.wr=some []∧f.nl=f.nh)→h.lo=0→Atk s n rd l h ds→runQ P C n all rest l h=some l'→
    ∃s1,q7g P C nix all ms rest i fps s=some (.normal,s1)∧Atk s1 n rd l' h ds
  |[],i,fps,l,s,l',_,_,hs,hr=>by cases hr;exact⟨s,rfl,hs⟩
  | o :: r,i,fps,l,s,l',hf,hlo,hs,hr=>by
    unfold runQ at hr
    unfold q7g
    have next:∀v,(match o.dst with|some d=>if d<n then runQ P C n all r ((d,v)::l) h else none|none=>runQ P C n all r l h)=some l'→∀fps',(∀f∈fps',f.wr=some []∧f.nl=f.nh)→
        ∃s1,(match putD s o.dst v h with|some s'=>q7g P C nix all ms r (Nat.succ i) fps' s'|none=>none)=some (.normal,s1)∧Atk s1 n rd l' h ds:=fun v hv fps' hf'=>by
      split at hv
      · rename_i d hd
        split at hv
        case isFalse=>cases hv
        rename_i hdn
        obtain⟨s2,hp,hs2⟩:=hs.put (d:=d) (Y1x hdn) v h
        rw[hd,hp]
        exact z6O r _ fps' _ s2 l' hf' hlo hs2 hv
      · rename_i hd
        obtain⟨s2,hp,hs2⟩:=hs.put0 v h
        rw[hd,hp]
        exact z6O r _ fps' _ s2 l' hf' hlo hs2 hv
    have hh:=hs.h
    split at hr
    ·cases hr
    · rename_i hw
      rw[hs.want hw,hh]
      exact next (.tup []) hr fps hf
    · rename_i hw
      rw[hs.want hw]
      dsimp only
      split at hr
      ·
        rename_i x aas hc
        split at hr
        case h_2=>cases hr
        rename_i g first cap vs hx has
        split at hr
        case h_2=>cases hr
        rename_i fn v hext hfn horc
        split at hr
        case isFalse=>cases hr
        rename_i hbody
        obtain⟨c,hb⟩:=Y0W.1 hbody
        have hcall:∀g':Hp,z5I C nix g (first++vs++cap) g'=some (.val v g'):=fun g'=>by
          unfold z5I
          rw[hfn];dsimp only;rw[hb];dsimp only;rw[horc]
        have ho:∀s':St,Atk s' n rd l s'.h ds→opA P C nix s' o=some (.val v s'.h):=fun s' hs'=>by
          unfold z5o at hc
          split at hc
          case h_2=>cases hc
          rename_i c' hop
          split at hc
          case h_2=>cases hc
          rename_i f' hcal
          cases hc
          unfold opA
          rw[hop]
          dsimp only
          rw[hcal]
          dsimp only
          rw[hs'.ev hx,hs'.evs has]
          show(match C.ext g (first++vs++cap)with|some v=>some (OpR.val v s'.h)|none=>z5I C nix g (first++vs++cap) s'.h)=_
          rw[hext]
          exact hcall _
        have hfp:fpOf C s o=none:=by
          unfold z5o at hc
          split at hc
          case h_2=>cases hc
          rename_i c' hop
          split at hc
          case h_2=>cases hc
          rename_i f' hcal
          unfold fpOf
          rw[hop];dsimp only;rw[hcal]
        have ho1:=ho {s with h:={s.h with lo:=s.h.nx}} ⟨hs.n,rfl,hs.ds,hs.rd,hs.tm⟩
        obtain⟨fps',h3,h4⟩:=x4R i ms fps hf (by rw[hh];exact hlo) ho1 (.inl hfp)
        rw[ho1]
        dsimp only
        rw[h3]
        dsimp only
        rw[x1h (by rw[hh];exact hlo),hh]
        exact next v hr fps' h4
      · split at hr
        case isFalse=>cases hr
        rename_i hq
        split at hr
        case isFalse=>cases hr
        rename_i hk
        split at hr
        case h_2=>cases hr
        rename_i v g ho
        have ho0:opA P C nix s o=some (.val v g):=by
          rw[q7T (s':=knSt l h) hh (fun x hx=>q7U hs hk x (by simpa using hx))]
          exact ho
        obtain rfl:=z4M hq ho0
        obtain⟨rd',hfp⟩:=quiet_fp (C:=C) (s:=s) hq
        obtain⟨g',h1,h2,_⟩:=x2V (s':={s with h:={s.h with lo:=s.h.nx}}) hfp ho0 (fun x _=>by cases x<;>rfl) rfl (fun _ _=>rfl)
        obtain rfl:=z4M hq h1
        obtain⟨fps',h3,h4⟩:=x4R i ms fps hf (by rw[hh];exact hlo) h1 (.inr ⟨_,hfp⟩)
        rw[h1]
        dsimp only
        rw[h3]
        dsimp only
        rw[x1h (by rw[hh];exact hlo),hh]
        exact next v hr fps' h4
theorem TW.drawQ(hP:POk P F gl K){id:Nat}{ops:Array Oper}(T:List (FuncId×List AV×AV))(hT:∀e∈T,PureC P F e.1 e.2.1 e.2.2)(hok:q9c ops.toList ops.toList (masks [] ops.toList) 0 []=true){r:Option Kn}
    (hr:runQ P (Ctx.of P gl (K.tell T)) n ops.toList ops.toList l h.z=r) (hg:match r with|some l'=>Q .normal l' h.z ds|none=>False):TW P F (.region id ops true) n rd l h ds Q:=by
  refine TW.z fun s hs m a w fe k hrel ha hf hF=> ?_
  cases r with
  |none=>exact False.elim hg
  | some l'=>
    have hP':=x4W hP hT
    obtain⟨s1,h1,h2⟩:=z6O (ms:=masks [] ops.toList) ops.toList 0 [] l s l' (fun f hf=>by cases hf) rfl hs hr
    have hd:x2O P (Ctx.of P gl (K.tell T)) nix ops.toList (masks [] ops.toList) s=some (.normal,s1):=by
      unfold x2O
      rw[hok];exact h1
    obtain⟨g1,g2,g3,g4⟩:=x5p hP' nix q0f ops s _ s1 hd
    have hh:=hs.h
    have hrd:=hs.rd
    rw[hh,hrd]at g4
    refine wpIn_mono (g4 m a w fe k id hrel ha hf fun r h3 _=>hF r h3) fun x a' w' hp=> ?_
    exact⟨_,s1,l',h.z,ds,hg,h2,.refl _,hp⟩
abbrev Y2L:=@TW.drawQ
end Go.Ax
