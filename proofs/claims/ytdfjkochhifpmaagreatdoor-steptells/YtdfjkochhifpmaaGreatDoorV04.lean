import Derived.Test.YtdfjkochhifpmaaGreatDoorV03
import Derived.RecoverIn
set_option linter.unusedSimpArgs false
set_option linter.unusedVariables false
namespace Go.Ax
section
variable{P:Program}{F:Nat→Option Obj}{gl:Nat→AV}{eqT:Knob}{m:Loc}
inductive XRel(P:Program)(F:Nat→Option Obj)(m:Loc):Ex→Exit→Prop
 |normal:XRel P F m .normal .normal
 |exit (id:Nat):XRel P F m (.exit id) (.exit id)
 |goto (l:Nat):XRel P F m (.goto l) (.goto l)
 |ret:XRel P F m .ret .ret
 |panic {v:AV} {cv:Value} (h:VRel P F m v cv):XRel P F m (.panic v) (.panic [{v:=cv,recovered:=false}])
def Post(P:Program)(F:Nat→Option Obj)(m:Loc)(h:Hp)(s':St)(w:World)(e:Ex):Exit→Act→World→Prop:=
 fun x a' w'=>∃m',XRel P F m' e x∧Step P F m h s'.h w w' m'∧ARel P F m' s' a'
def Sound(P:Program)(F:Nat→Option Obj)(ih:Code→St→Res):Prop:=
 ∀c s e s',ih c s=some (e,s')→HpLe s.h s'.h∧s'.rd=s.rd∧s'.n=s.n∧
  ∀m a w fe k,HRel P F m s.h w→ARel P F m s a→FenRel m s.rd fe→Free m s.h s'.h→c.wpIn fe k P (Post P F m s.h s' w e) a w
theorem Free.first{h h1 h2:Hp}(hf:Free m h h2)(hle:h1.nx≤h2.nx):Free m h h1:=fun r h3 h4=>hf r h3 (Y0D h4 hle)
theorem Free.after{h h1 h2:Hp}{w w1:World}{m1:Loc}(hs:Step P F m h h1 w w1 m1)(hf:Free m h h2):Free m1 h1 h2:=fun r h3 h4=>by
  cases hm:m1 r with
  |none=>rfl
  | some c=>
    cases hm0:m r with
    |none=>have:=(hs.new r c hm hm0).2;omega
    |some d=>have:=hf r (Y0C hs.nx h3) h4;rw[hm0]at this;cases this
abbrev Y1T:=@Free.after
theorem tget_e(t:Nat):tget .e t= .tup []:=by unfold tget;rw[Y0a]
theorem z0O:∀(l:List AV) (tm:Tr AV) (i t:Nat),tget (z0A tm i l) t=if i≤t then(match l[t-i]? with|some v=>v|none=>tget tm t)else tget tm t:=by
  intro l
  induction l with
  |nil=>intro tm i t;simp[z0A]
  | cons v l ih=>
    intro tm i t
    show tget (z0A (tm.set i v) (i+1) l) t=_
    rw[ih,q4o]
    by_cases h1:i+1≤t
    · have e:t-i=(t-(i+1))+1:=by omega
      rw[Y0e h1,Y0e (show i≤t by omega),Y0c (show¬i=t by omega),e,List.getElem?_cons_succ]
    · rw[Y0c h1]
      by_cases h2:i=t
      ·subst h2;rw[Y0e rfl,Y0e (Y0u _),Y1s];rfl
      ·rw[Y0c h2,Y0c (by omega)]
theorem z6l{args:List AV}{cargs:Array Value}{n:Nat}(h:LRel P F m args cargs.toList)(hn:args.length≤n):
  TRel P F m (z0A .e 0 args) n (cargs++Array.replicate (n-cargs.size) Go.undef):=by
 have hl:args.length=cargs.size:=by have:=h.len;simpa using this
 refine⟨by simp;omega,fun t ht=> ?_,fun t ht=> ?_⟩
 ·rw[z0O,Y0e (Y0E _),Y1H,Y1M]
  by_cases hlt:t<args.length
  ·obtain⟨y,hy,hrel⟩:=h.get (Y0n hlt)
   rw[Y0n hlt,Y1E (by omega)]
   rw[Y1U]at hy
   rw[hy];exact hrel
  ·rw[Y1V (by omega),Array.getElem?_append_right (by omega),Array.getElem?_replicate,Y0e (by omega),tget_e]
   exact Y0p .nil
 ·rw[z0O,Y0e (Y0E _),Y1H,Y1V (by omega),tget_e]
theorem x4h{cp:Value}{t:TypeId}{cv:Value}{w:World}(h:(Instr.loadAt t cp).run P w= .ok cv w):(do loadVar t (←asAddr cp):Sem Value).run P w= .ok cv w:=by
  unfold Instr.loadAt at h
  cases cp with
  | pointer a=>cases a with
    |none=>simp[Instr.sureAddr,stuck,Result.andThen]at h
    |some a=>exact h
  |_=>simp[Instr.sureAddr,stuck,Result.andThen]at h
theorem z0Q{s:St}{tmps:Array Value}{w:World}(ht:∀t,VRel P F m (tget s.tm t) (tmps.getD t Go.undef))(hr:HRel P F m s.h w):∀(l:List ResultVar) (vs:List AV),q3n (Ctx.of P gl eqT) s l=some vs→
    ∃cvs,(l.mapM fun|ResultVar.tmp t=>(pure (tmps.getD t Go.undef):Sem Value)| .cell a t=>do loadVar t (←asAddr (tmps.getD a Go.undef))).run P w= .ok cvs w∧LRel P F m vs cvs
  |[],vs,h=>by cases h;exact⟨[],by simp,.nil⟩
  | .tmp t::l,vs,h=>by
    unfold q3n at h
    split at h
    · rename_i us hu
      cases h
      obtain⟨cvs,h1,h2⟩:=z0Q ht hr l us hu
      refine⟨tmps.getD t Go.undef::cvs,?_,.cons (ht t) h2⟩
      rw[List.mapM_cons]
      simp only[Sem.run_bind,Sem.run_pure,Result.andThen]
      rw[h1]
    ·cases h
  | .cell a t::l,vs,h=>by
    unfold q3n at h
    split at h
    · rename_i v us hv hu
      cases h
      obtain⟨cvs,h1,h2⟩:=z0Q ht hr l us hu
      obtain⟨cv,h3,h4⟩:=z8H hv (ht a) hr
      refine⟨cv::cvs,?_,.cons h4 h2⟩
      have h5:=x4h h3
      rw[List.mapM_cons,Sem.run_bind,h5]
      simp only[Sem.run_bind,Sem.run_pure,Result.andThen]
      rw[h1]
    ·cases h
theorem z7d{s:St}{fn:Func}{tmps:Array Value}{w:World}{vs:List AV}(ht:∀t,VRel P F m (tget s.tm t) (tmps.getD t Go.undef))(hr:HRel P F m s.h w)(h:q3n (Ctx.of P gl eqT) s fn.results.toList=some vs):
    ∃cv,(results fn tmps).run P w= .ok cv w∧VRel P F m (q0q vs) cv:=by
  obtain⟨cvs,h1,h2⟩:=z0Q ht hr _ _ h
  have h3:(results fn tmps).run P w= .ok (if h:cvs.toArray.size=1 then cvs.toArray[0]else .tuple cvs.toArray) w:=by
    unfold results
    rw[Array.mapM_eq_mapM_toList,Sem.run_bind,Sem.run_map]
    exact Y1K (fun r=>Result.andThen (Result.andThen r fun a w'=>Result.ok a.toArray w') fun a w'=>Sem.run P (pure (if h:a.size=1 then a[0]else Value.tuple a)) w') h1
  refine⟨_,h3,?_⟩
  have hl:=h2.len
  match vs,cvs,h2,hl with
  |[],[],h2,_=>exact Y0p h2
  |[v],[c],h2,_=>exact h2.head
  | v::u::vs,c::d::cvs,h2,_=>
    rw[dif_neg (by simp)]
    exact Y0p h2
theorem q3F{f:FuncId}{fn:Func}{c:Code}(hf:P.funcs[f]? =some fn)(hname:(fn.name== "runtime.NumGoroutine")=false)(hb:fn.body=some c)(args:Array Value)(w:World):
  (callFunc f args).run P w= .ok (.enter f args) w:=by
 have h1:fn.name≠ "runtime.NumGoroutine" :=by simpa using hname
 simp[callFunc,hf,h1,hb]
theorem z8J{ih:Code→St→Res}(hih:Sound P F ih){f:FuncId}{args:List AV}{h h':Hp}(hc:x7S (Ctx.of P gl eqT) ih f args h=some h'):HpLe h h'∧(∃fn c,P.funcs[f]? =some fn∧fn.body=some c)∧
  ∀m w n cargs,HRel P F m h w→LRel P F m args cargs.toList→Free m h h'→CallsDIn Fence.wide n P f cargs .returning w fun e u' w'=>u'= .returning∧∃cv m',e= .returned cv∧Step P F m h h' w w' m':=by
 unfold x7S at hc;cases hc
theorem recF_rel{ih:Code→St→Res}(hih:Sound P F ih){v:AV}{f:FuncId}{args:List AV}{h h':Hp}(hc:recF (Ctx.of P gl eqT) ih v f args h=some h'):HpLe h h'∧(∃fn c,P.funcs[f]? =some fn∧fn.body=some c)∧
  ∀m w n cargs pv,HRel P F m h w→VRel P F m v pv→LRel P F m args cargs.toList→Free m h h'→CallsDIn Fence.wide n P f cargs (.panicking [{v:=pv,recovered:=false}]) w fun e u' w'=>u'= .panicking [{v:=pv,recovered:=true}]∧∃cv m',e= .returned cv∧Step P F m h h' w w' m':=by
 unfold recF at hc;cases hc
theorem q5v{ih:Code→St→Res}(hih:Sound P F ih):∀(ds:List ADef) (h h':Hp),q2k (Ctx.of P gl eqT) ih ds h=some h'→HpLe h h'
  |[],h,h',e=>by cases e;exact .refl _
  | .coll r::l,h,h',e=>by
    unfold q2k at e
    split at e
    · rename_i hg
      exact(Y1L hg _).trans (q5v hih l _ _ e)
    ·cases e
  | .fn (.func g) cap args::l,h,h',e=>by
    unfold q2k at e
    split at e
    · rename_i h1 hd
      exact(z8J hih hd).1.trans (q5v hih l _ _ e)
    ·cases e
  | .clr t x::l,h,h',e=>by
    unfold q2k at e
    split at e
    · rename_i h1 hd
      exact(x1w hd).trans (q5v hih l _ _ e)
    ·cases e
  | .fn (.yield _) _ _::_,_,_,e=>by cases e
  | .fn (.method _) _ _::_,_,_,e=>by cases e
theorem q7V(hN:∀(f:FuncId) (fn:Func),P.funcs[f]? =some fn→fn.body.isSome=true→(fn.name== "runtime.NumGoroutine")=false){ih:Code→St→Res}(hih:Sound P F ih){n:Nat}{fn:Func}{tmps:Array Value}{R:Ending→World→Prop}:
    ∀(ds:List ADef) (cds:List Deferred) (h h':Hp) (w:World) (m:Loc),DsRel P F m ds cds→q2k (Ctx.of P gl eqT) ih ds h=some h'→HRel P F m h w→Free m h h'→
    (∀w' m',Step P F m h h' w w' m'→∃v,(results fn tmps).run P w'= .ok v w'∧R (.returned v) w')→q4I Fence.wide n P fn tmps R cds .returning w
  | [],cds,h,h',w,m,hd,e,hr,_,hk=>by
    cases hd;cases e
    exact hk w m (Y0t hr rfl (Y0r w))
  | .coll r::l,cds,h,h',w,m,hd,e,hr,hF,hk=>by
    unfold q2k at e
    split at e
    case h_2=>cases e
    rename_i hg
    cases hd with
    |cons hd hds=>
    cases hd with
    | coll hm=>
      rename_i b z
      rcases hr.obj r _ b z hg hm with⟨_,ho⟩|⟨ho,_⟩
      case inr=>cases ho
      have hs:Step P F m h (h.put r (.defd none)) w _ m:=Step.obj hr hg rfl hm (ob:=.deferred none) (.inr ⟨rfl,rfl⟩)
      refine⟨by simp,.inl ⟨b,_,rfl,?_,q7V hN hih l _ _ h' _ m hds e hs.rel (Y1T hs hF) fun w' m' hw'=>hk w' m' (hs.trans hw')⟩⟩
      unfold Instr.takeDeferred
      rw[Sem.run_bind,q5u ho rfl]
      simp only[Result.andThen,Sem.run_bind]
      rw[q7N ho rfl]
      rfl
  | .fn (.func g) cap args::l,cds,h,h',w,m,hd,e,hr,hF,hk=>by
    unfold q2k at e
    split at e
    case h_2=>cases e
    rename_i h1 hdf
    cases hd with
    |cons hd hds=>
    cases hd with
    | fn q1 q2=>
      rename_i cds ccap cargs
      obtain⟨d1,⟨fn',c',hf',hb'⟩,d3⟩:=z8J hih hdf
      have hle:=q5v hih l _ _ e
      refine⟨by simp,.inr (.inr ⟨fun h=>(by cases h),.func g,ccap,g,cargs++ccap,rfl,?_,fun _ _=>trivial,(d3 m w (n-1) (cargs++ccap) hr (by rw[Y1F];exact q2.append q1) (hF.first hle.nx)).mono fun e' u' w' hq=> ?_⟩)⟩
      · show Sem.run P (callFunc g (cargs++ccap)) w=_
        exact q3F hf' (hN g fn' hf' (by rw[hb'];rfl)) hb' _ w
      · obtain⟨rfl,cv,m',rfl,hs⟩:=hq
        show q4I Fence.wide n P fn tmps R cds (settle .returning) w'
        exact q7V hN hih l _ _ h' w' m' (hds.mono hs.le) e hs.rel (Y1T hs hF) fun w2 m2 hw2=>hk w2 m2 (hs.trans hw2)
  | .clr t x::l,cds,h,h',w,m,hd,e,hr,hF,hk=>by
    unfold q2k at e
    split at e
    case h_2=>cases e
    rename_i h1 hdf
    cases hd with
    |cons hd hds=>
    cases hd with
    | clr q1 q2 q3=>
      rename_i cds ty cx ts k args
      obtain⟨w',g1,g2⟩:=z8L (ty:=ty) q1 q2 hdf q3 hr
      refine⟨by simp,.inr (.inl ⟨.clear,ts,ty,k,.tuple #[],w',rfl,?_,q7V hN hih l _ _ h' _ m hds e g2.rel (Y1T g2 hF) fun w2 m2 hw2=>hk w2 m2 (g2.trans hw2)⟩)⟩
      show Sem.run P (builtin .clear ts ty k args) w=_
      unfold builtin
      simp[g1]
  | .fn (.yield _) _ _::_,_,_,_,_,_,_,e,_,_,_=>by cases e
  | .fn (.method _) _ _::_,_,_,_,_,_,_,e,_,_,_=>by cases e
theorem x4V(hN:∀(f:FuncId) (fn:Func),P.funcs[f]? =some fn→fn.body.isSome=true→(fn.name== "runtime.NumGoroutine")=false){ih:Code→St→Res}(hih:Sound P F ih){s:St}{h':Hp}{fn:Func}{vs:List AV}{m1:Loc}{h h1:Hp}{w w1:World}{tmps:Array Value}{ds:List ADef}{cds:List Deferred}{n:Nat}(ha:TRel P F m1 s.tm s.n tmps)(hds:DsRel P F m1 ds cds)(hs:Step P F m h h1 w w1 m1)(hF:Free m1 h1 h')(hd:q2k (Ctx.of P gl eqT) ih ds h1=some h')(hres:q3n (Ctx.of P gl eqT) {s with h:=h'} fn.results.toList=some vs):
  q4I Fence.wide n P fn tmps (fun e w'=>∃cv m',e= .returned cv∧Step P F m h h' w w' m'∧VRel P F m' (q0q vs) cv) cds .returning w1:=by
 refine q7V hN hih ds _ h1 h' w1 m1 hds hd hs.rel hF fun w' m' hw'=> ?_
 have ht:∀t,VRel P F m' (tget s.tm t) (tmps.getD t Go.undef):=fun t=>by
  by_cases hlt:t<s.n
  ·exact(ha.at' t hlt).mono hw'.le
  ·rw[ha.out t (by omega),Y1M,Y1N (by rw[ha.size];omega)]
   exact Y0p .nil
 obtain⟨cv,h1,h2⟩:=z7d (s:={s with h:=h'}) ht hw'.rel hres
 exact⟨cv,h1,cv,m',rfl,hs.trans hw',h2⟩
theorem x8c(hN:∀(f:FuncId) (fn:Func),P.funcs[f]? =some fn→fn.body.isSome=true→(fn.name== "runtime.NumGoroutine")=false){ih:Code→St→Res}(hih:Sound P F ih){s:St}{h':Hp}{fn:Func}{vs:List AV}{m1:Loc}{h:Hp}{w w1:World}{a:Act}{n:Nat}(ha:ARel P F m1 s a)(hs:Step P F m h s.h w w1 m1)(hF:Free m1 s.h h')(hd:q2k (Ctx.of P gl eqT) ih s.ds s.h=some h')(hres:q3n (Ctx.of P gl eqT) {s with h:=h'} fn.results.toList=some vs):
  q4I Fence.wide n P fn a.tmps (fun e w'=>∃cv m',e= .returned cv∧Step P F m h h' w w' m'∧VRel P F m' (q0q vs) cv) a.defers .returning w1:=
 x4V hN hih ha.tm ha.ds hs hF hd hres
theorem x1y (hP : POk P F gl eqT) {ih:Code→St→Res} (hih:Sound P F ih) {f:FuncId} {args:List AV} {h:Hp} {r:OpR} (hc:z5I (Ctx.of P gl eqT) ih f args h=some r):
    ∃v h' fn c,r= .val v h'∧P.funcs[f]? =some fn∧fn.body=some c∧HpLe h h'∧Calling P F h h' v f args:=by
  unfold z5I at hc
  split at hc
  case h_2=>cases hc
  rename_i fn hf
  have hf:=Ctx.of_fn hf
  split at hc
  case h_2=>cases hc
  rename_i c hb
  split at hc
  · rename_i v ho
    cases hc
    refine⟨_,_,fn,c,rfl,hf,hb,.refl _,fun m w n cargs hR hA _=>(hP.orc _ _ _ ho m w n cargs hR.frz hA).mono fun e w' he=> ?_⟩
    obtain⟨cv,fz,rfl,hs,hz,hold,hfz,hle,hnew,hv⟩:=he
    have hlm:Loc.le m ⟨m,fz⟩:=⟨fun _ _ h=>h,hle⟩
    refine⟨cv,⟨m,fz⟩,rfl,⟨hlm,fun r c h1 h2=> ?_,⟨fun r o b z hg hm=> ?_,hR.inj,fun r o b z hg hl hm=> ?_,fun b o hb=> ?_,hR.wf⟩,hs,hz,fun b hb _=>hold b hb,Y0u _,fun r o' c hg hl _=>⟨o',hg,hl⟩,fun r b z h1 h2 _=> ?_,fun b o hb=>(hnew b o hb).imp_right .inl⟩,VRel.mono (m:=⟨fun _=>none,fz⟩) (m':=⟨m,fz⟩) ⟨fun r c h=>(by cases h),fun _ _ h=>h⟩ hv⟩
    · have h1:m r=some c:=h1
      rw[h2]at h1;cases h1
    · have h1:=hR.obj r o b z hg hm
      by_cases hl:o.live=true
      ·rw[hold b (hR.lt hg hl hm)];exact h1.mono hlm
      ·cases o<;>first|trivial|exact absurd rfl hl
    · obtain ⟨h1, h2⟩:=hR.out r o b z hg hl hm
      refine⟨h1,?_⟩
      show fz b=none
      cases hf:fz b with
      |none=>rfl
      | some x => rcases hnew b x hf with h3|h3
                  ·rw[h2]at h3;cases h3
                  ·have:=hR.lt hg hl hm;omega
    · rcases hb with hb|hb
      · have h1:Fz F m b o:=.inl hb
        rw[hold b (hR.flt h1)];exact hR.frz b o h1
      ·exact hfz b o hb
    · have h1:m r=some (b,z):=h1
      rw[h2]at h1;cases h1
  split at hc
  · rename_i x hp
    cases hc
    obtain⟨g1,g2⟩:=hP.prim _ _ _ _ _ hp
    exact⟨_,_,fn,c,rfl,hf,hb,g1,g2⟩
  cases hle:Nat.ble args.length fn.ntmps with
  |false=>rw[hle]at hc;cases hc
  |true=>
  rw[hle]at hc
  simp only[Y0V]at hc
  have hle:=Y0J hle
  split at hc
  · rename_i s hr
    split at hc
    case h_2=>cases hc
    rename_i h' hd
    split at hc
    case h_2=>cases hc
    rename_i vs hres
    cases hc
    obtain⟨g1,g2,g3,g4⟩:=hih _ _ _ _ hr
    have hl:=q5v hih _ _ _ hd
    refine⟨_,_,fn,c,rfl,hf,hb,g1.trans hl,fun m w n cargs hR hA hF=> ?_⟩
    refine q5R hf hb trivial (wpIn_mono (g4 m _ w _ n hR ⟨z6l hA hle,.nil⟩ rfl (hF.first hl.nx)) fun x a' w' hp=> ?_)
    obtain⟨m1,hx,hs,ha⟩:=hp
    cases hx
    exact x8c hP.names hih ha hs (Y1T hs hF) hd hres
  · rename_i s hr
    split at hc
    case h_2=>cases hc
    rename_i h' hd
    split at hc
    case h_2=>cases hc
    rename_i vs hres
    cases hc
    obtain⟨g1,g2,g3,g4⟩:=hih _ _ _ _ hr
    have hl:=q5v hih _ _ _ hd
    refine⟨_,_,fn,c,rfl,hf,hb,g1.trans hl,fun m w n cargs hR hA hF=> ?_⟩
    refine q5R hf hb trivial (wpIn_mono (g4 m _ w _ n hR ⟨z6l hA hle,.nil⟩ rfl (hF.first hl.nx)) fun x a' w' hp=> ?_)
    obtain⟨m1,hx,hs,ha⟩:=hp
    cases hx
    exact x8c hP.names hih ha hs (Y1T hs hF) hd hres
  · rename_i pv s hr
    split at hc
    case h_2=>cases hc
    rename_i g cap dargs ds hds
    split at hc
    case h_2=>cases hc
    rename_i h1 hrec
    split at hc
    case h_2=>cases hc
    rename_i h' hd
    split at hc
    case h_2=>cases hc
    rename_i vs hres
    cases hc
    obtain⟨g1,g2,g3,g4⟩:=hih _ _ _ _ hr
    have hl:=q5v hih _ _ _ hd
    obtain⟨r1,⟨fn',c',hf',hb'⟩,r3⟩:=recF_rel hih hrec
    refine⟨_,_,fn,c,rfl,hf,hb,(g1.trans r1).trans hl,fun m w n cargs hR hA hF=> ?_⟩
    refine q5R hf hb trivial (wpIn_mono (g4 m _ w _ n hR ⟨z6l hA hle,.nil⟩ rfl (hF.first (Y0C r1.nx hl.nx))) fun x a' w' hp=> ?_)
    obtain⟨m1,hx,hs,ha⟩:=hp
    cases hx with
    |panic hpv=>
    rename_i cpv
    have hds':=ha.ds
    have hF1:=Y1T hs hF
    show q4I Fence.wide n P fn a'.tmps _ a'.defers (.panicking [{v:=cpv,recovered:=false}]) w'
    rw[hds]at hds'
    generalize a'.defers=dd at hds'
    cases hds' with
    |cons q hq=>
    cases q with
    | fn q1 q2=>
      rename_i cds ccap cargs'
      refine⟨by simp,.inr (.inr ⟨fun h=>(by cases h),.func g,ccap,g,cargs'++ccap,rfl,?_,fun _ _=>trivial,(r3 m1 w' (n-1) (cargs'++ccap) cpv hs.rel hpv (by rw[Y1F];exact q2.append q1) (hF1.first hl.nx)).mono fun e' u' w2 hq2=> ?_⟩)⟩
      · show Sem.run P (callFunc g (cargs'++ccap)) w'=_
        exact q3F hf' (hP.names g fn' hf' (by rw[hb'];rfl)) hb' _ w'
      · obtain⟨rfl,cv,m2,rfl,hs2⟩:=hq2
        show q4I Fence.wide n P fn a'.tmps _ cds .returning w2
        exact x4V hP.names hih (ha.tm.mono hs2.le) (hq.mono hs2.le) (hs.trans hs2) (Y1T hs2 hF1) hd hres
  ·cases hc
end
end Go.Ax
namespace Go.Ax
section
variable{P:Program}{F:Nat→Option Obj}{gl:Nat→AV}{eqT:Knob}{m:Loc}
theorem q9J{n:Nat}:∀(ps:List Nat) (args:List AV) (cargs:List Value) (tm tm':Tr AV) (t:Array Value),z3D tm ps args=some tm'→LRel P F m args cargs→(ps.all fun p=>Nat.blt p n)=true→TRel P F m tm n t→
    ps.length=args.length∧TRel P F m tm' n ((ps.zip cargs).foldl (fun tmps (x:Nat×Value)=>tmps.setIfInBounds x.1 x.2) t)
  | [],[],cargs,tm,tm',t,h,hl,_,ht=>by
    cases hl.cases_nil;cases h
    exact⟨rfl,ht⟩
  | p::ps,v::vs,cargs,tm,tm',t,h,hl,ha,ht=>by
    obtain⟨c,cs,rfl,h1,h2⟩:=hl.cases_cons
    simp only[List.all_cons,Y1X]at ha
    have hp:p<n:=Y0J ha.1
    obtain⟨g1,g2⟩:=q9J ps vs cs (tm.set p v) tm' (t.setIfInBounds p c) h h2 ha.2 (ht.put hp h1)
    exact⟨by simp[g1],g2⟩
  |[],_::_,_,_,_,_,h,_,_,_=>by cases h
  |_::_,[],_,_,_,_,h,_,_,_=>by cases h
theorem q9z{w:World}{b:Nat}{r:Loop}(h:w.heap[b]? =some (.loop r)):(Instr.getLoop b).run P w= .ok r w:=by
 unfold Instr.getLoop
 rw[Sem.run_bind,q5u h rfl]
 rfl
theorem x0O{w:World}{b:Nat}{r:Loop}{args:Array Value}(h:w.heap[b]? =some (.loop r))(hn:args.size=r.params.size):
  (Instr.yield b args).run P w= .ok (.round b r.fn ((r.params.zip args).foldl (fun tmps (x:Nat×Value)=>tmps.setIfInBounds x.1 x.2) r.tmps) r.assign r.body) w:=by
 unfold Instr.yield
 rw[Sem.run_bind,q9z h]
 simp only[Result.andThen,hn,ne_eq,not_true_eq_false,Y1m]
 rfl
theorem z2j{w:World}{b:Nat}{r:Loop}(h:w.heap[b]? =some (.loop r))(hs:r.state= .ready):
  (Instr.beginRound b).run P w= .ok () {w with heap:=w.heap.setIfInBounds b (.loop {r with state:=.busy})}:=by
 unfold Instr.beginRound
 rw[Sem.run_bind,q9z h]
 simp only[Result.andThen,Sem.run_bind]
 rw[q7N h rfl]
 simp only[hs]
 rfl
theorem x1K{w:World}{b:Nat}{r:Loop}(h:w.heap[b]? =some (.loop r))(jump:Option Code):
  (Instr.endRound b jump).run P w= .ok (.bool jump.isNone) {w with heap:=w.heap.setIfInBounds b (.loop {r with state:=if jump.isNone then .ready else .done,pending:=jump})}:=by
 unfold Instr.endRound
 rw[Sem.run_bind,q9z h]
 simp only[Result.andThen,Sem.run_bind]
 rw[q7N h rfl]
 rfl
def Heard(P:Program)(F:Nat→Option Obj)(m:Loc)(h h':Hp)(w:World)(v:AV):Ending→World→Prop:=
 fun e w'=>∃cv m',e= .returned cv∧Step P F m h h' w w' m'∧VRel P F m' v cv
theorem z4G{h:Hp}{w:World}(hr:HRel P F m h w){l b z n ds:Nat}{st:LoopState}{pd:Option Code}{tm:Tr AV}{ps:List Nat}{asn body:Code}(hg:h.get l=some (.loop st pd tm n ps asn body ds))(hm:m l=some (b,z)):
  ∃fn tmps cds zd,w.heap[b]? =some (.loop {state:=st,pending:=pd,fn:=fn,tmps:=tmps,params:=ps.toArray,assign:=asn,body:=body,defers:=cds})∧TRel P F m tm n tmps∧m ds=some (cds,zd):=
 hr.obj l _ b z hg hm
theorem z9t{h:Hp}{w:World}(hr:HRel P F m h w){l b z n ds:Nat}{st st':LoopState}{pd pd':Option Code}{tm:Tr AV}{ps:List Nat}{asn body:Code}{fn:FuncId}{tmps:Array Value}{cds zd:Nat}(hg:h.get l=some (.loop st pd tm n ps asn body ds))(hm:m l=some (b,z))
  (ht:TRel P F m tm n tmps) (hd:m ds=some (cds,zd)):
  Step P F m h (h.put l (.loop st' pd' tm n ps asn body ds)) w {w with heap:=w.heap.setIfInBounds b (.loop {state:=st',pending:=pd',fn:=fn,tmps:=tmps,params:=ps.toArray,assign:=asn,body:=body,defers:=cds})} m:=
 Step.obj hr hg rfl hm ⟨fn,tmps,cds,zd,rfl,ht,hd⟩
theorem z0D{h0:Hp}{m0 m2:Loc}{w0 w2:World}{s2:St}{l b z n ds:Nat}{pd:Option Code}{tm:Tr AV}{ps:List Nat}{asn body:Code}(hs:Step P F m0 h0 s2.h w0 w2 m2)(hg:s2.h.get l=some (.loop .busy pd tm n ps asn body ds))(hm:m2 l=some (b,z))(jump:Option Code):
  ∃v w',(Instr.endRound b jump).run P w2= .ok v w'∧Heard P F m0 h0 (s2.h.put l (.loop (if jump.isNone then .ready else .done) jump tm n ps asn body ds)) w0 (.bool jump.isNone) (.returned v) w':=by
 obtain⟨fn,tmps,cds,zd,h1,h2,h3⟩:=z4G hs.rel hg hm
 exact⟨_,_,x1K h1 jump,_,m2,rfl,hs.trans (z9t hs.rel hg hm h2 h3),.bool _⟩
theorem x5H{ih:Code→St→Res}(hih:Sound P F ih){l:Nat}{args:List AV}{h:Hp}{r:OpR}(hc:x7G ih l args h=some r):
  ∃v h',r= .val v h'∧HpLe h h'∧∀m w n cargs b z,m l=some (b,z)→HRel P F m h w→LRel P F m args cargs.toList→Free m h h'→
   ∃f tmps asn body,(Instr.yield b cargs).run P w= .ok (.round b f tmps asn body) w∧RoundIn Fence.wide n P b f tmps asn body w (Heard P F m h h' w v):=by
 unfold x7G at hc
 split at hc
 case h_2=>cases hc
 rename_i pd tm n ps asn body ds hg
 split at hc
 ·cases hc
 rename_i tm' htm
 cases hall:(ps.all fun p=>Nat.blt p n)with
 |false=>rw[hall]at hc;cases hc
 |true=>
 rw[hall]at hc
 simp only[Y0V]at hc
 split at hc
 case h_2=>cases hc
 rename_i s1 hr1
 split at hc
 case h_2=>cases hc
 rename_i pd2 tm2 n2 ps2 as2 b2 ds2 hg1
 split at hc
 case h_2=>cases hc
 rename_i e s2 hr2
 split at hc
 case h_2=>cases hc
 rename_i pd3 tm3 n3 ps3 as3 b3 ds3 hg2
 obtain⟨a1,a2,a3,a4⟩:=hih _ _ _ _ hr1
 obtain⟨b1,b2',b3',b4⟩:=hih _ _ _ _ hr2
 have hle:HpLe h s2.h:=(a1.trans (Y1L hg1 _)).trans b1
 have main:∀(jump:Option Code) (v:AV),v= .bool jump.isNone→
   (∀m x,XRel P F m e x→(x= .normal∧jump=none)∨(x= .ret∧jump=some .ret)∨(∃id,x= .exit id∧jump=some (.exit id))∨(∃g,x= .goto g∧jump=some (.goto g)))→
   HpLe h (s2.h.put l (.loop (if jump.isNone then .ready else .done) jump tm3 n3 ps3 as3 b3 ds3))∧∀m w k cargs b z,m l=some (b,z)→HRel P F m h w→LRel P F m args cargs.toList→Free m h (s2.h.put l (.loop (if jump.isNone then .ready else .done) jump tm3 n3 ps3 as3 b3 ds3))→
   ∃f tmps asn body,(Instr.yield b cargs).run P w= .ok (.round b f tmps asn body) w∧RoundIn Fence.wide k P b f tmps asn body w (Heard P F m h (s2.h.put l (.loop (if jump.isNone then .ready else .done) jump tm3 n3 ps3 as3 b3 ds3)) w v):=by
  intro jump v hv hx
  subst hv
  refine⟨hle.trans (Y1L hg2 _),fun m w k cargs b z hm hr hA hF=> ?_⟩
  have hF:Free m h s2.h:=hF
  obtain⟨fn,tmps,cds,zd,h1,h2,h3⟩:=z4G hr hg hm
  obtain⟨g1,g2⟩:=q9J ps args cargs.toList tm tm' tmps htm hA hall h2
  have hsz:cargs.size=ps.toArray.size:=by have:=hA.len;simp at this;simp;omega
  have hfold:(ps.toArray.zip cargs).foldl (fun tmps (x:Nat×Value)=>tmps.setIfInBounds x.1 x.2) tmps=(ps.zip cargs.toList).foldl (fun tmps (x:Nat×Value)=>tmps.setIfInBounds x.1 x.2) tmps:=by
   rw[←Array.foldl_toList];simp[Array.toList_zip]
  refine⟨fn,_,asn,body,x0O h1 hsz,roundIn_of_wpIn trivial ?_⟩
  dsimp only
  rw[hfold]
  have hF1:Free m h s1.h:=hF.first b1.nx
  refine wpIn_mono (a4 m _ w (Fence.wide.inRound b) k hr ⟨g2,.nil⟩ ⟨b,z,hm,rfl⟩ hF1) fun x1 act1 w1 hp1=> ?_
  obtain⟨m1,hx1,hs1,ha1⟩:=hp1
  cases hx1
  have hm1:=hs1.le _ _ hm
  obtain⟨fn1,tmps1,cds1,zd1,h11,h12,h13⟩:=z4G hs1.rel hg1 hm1
  have hst:=z9t (st':=.busy) (pd':=pd2) (fn:=fn1) hs1.rel hg1 hm1 h12 h13
  have hs1':=hs1.trans hst
  have hb:body=body:=rfl
  refine⟨_,z2j h11 rfl,?_⟩
  have hF2:Free m1 (s1.h.put l (.loop .busy pd2 tm2 n2 ps2 as2 b2 ds2)) s2.h:=Y1T hs1' hF
  refine wpIn_mono (b4 m1 act1 _ (Fence.wide.inRound b) k hst.rel ⟨ha1.tm,ha1.ds⟩ (by rw[show({s1 with h:=s1.h.put l (.loop .busy pd2 tm2 n2 ps2 as2 b2 ds2)}:St).rd=some l from a2];exact⟨b,z,hm1,rfl⟩) hF2) fun x2 act2 w2 hp2=> ?_
  obtain⟨m2,hx2,hs2,ha2⟩:=hp2
  have hs:=hs1'.trans hs2
  have hm2:=hs2.le _ _ hm1
  rcases hx m2 x2 hx2 with⟨rfl,rfl⟩|⟨rfl,rfl⟩|⟨id,rfl,rfl⟩|⟨g,rfl,rfl⟩
  ·exact z0D hs hg2 hm2 none
  ·exact z0D hs hg2 hm2 (some .ret)
  ·exact z0D hs hg2 hm2 (some (.exit id))
  ·exact z0D hs hg2 hm2 (some (.goto g))
 split at hc
 ·cases hc
  obtain⟨g1,g2⟩:=main none _ rfl (fun m x hx=>by cases hx;exact .inl ⟨rfl,rfl⟩)
  exact⟨_,_,rfl,g1,g2⟩
 ·cases hc
  obtain⟨g1,g2⟩:=main (some .ret) _ rfl (fun m x hx=>by cases hx;exact .inr (.inl ⟨rfl,rfl⟩))
  exact⟨_,_,rfl,g1,g2⟩
 ·rename_i id
  cases hc
  obtain⟨g1,g2⟩:=main (some (.exit id)) _ rfl (fun m x hx=>by cases hx;exact .inr (.inr (.inl ⟨_,rfl,rfl⟩)))
  exact⟨_,_,rfl,g1,g2⟩
 ·rename_i g
  cases hc
  obtain⟨g1,g2⟩:=main (some (.goto g)) _ rfl (fun m x hx=>by cases hx;exact .inr (.inr (.inr ⟨_,rfl,rfl⟩)))
  exact⟨_,_,rfl,g1,g2⟩
 ·cases hc
def Acts(P:Program)(F:Nat→Option Obj)(m:Loc)(h h':Hp)(w:World)(v:AV)(q:Sem Next):Prop:=
 Does P F m h h' w v q∨(∃f args,q.run P w= .ok (.enter f args) w∧∀n,CallsIn Fence.wide n P f args w (Heard P F m h h' w v))∨
  (∃l f tmps asn body,q.run P w= .ok (.round l f tmps asn body) w∧∀n,RoundIn Fence.wide n P l f tmps asn body w (Heard P F m h h' w v))
theorem Acts.wp{h h':Hp}{w:World}{v:AV}{o:Oper}{a:Act}{fe:Fence}{rd:Option Nat}{n:Nat}{K:Act→World→Prop}{Q:Exit→Act→World→Prop}
  (hd:Acts P F m h h' w v (execOp a.eval o)) (hnd:∀c,o.op≠ .defer c) (hf:FenRel m rd fe)
  (hK:∀m' cv w',Step P F m h h' w w' m'→VRel P F m' v cv→K (a.put o.dst cv) w'):o.wpIn fe n P a w K Q:=by
 rcases hd with hd|⟨f,args,h1,h2⟩|⟨l,f,tmps,asn,body,h1,h2⟩
 ·exact hd.wp hnd hf hK
 ·refine⟨fun f _=>hf.fn f,?_⟩
  rw[Oper.semAt_eq _ _ _ hnd,h1]
  refine⟨fun h=>(by rw[hf.depth]at h;cases h),?_⟩
  have h3:CallsIn fe (n-1) P f args w (Heard P F m h h' w v):=by
   cases rd with
   |none=>cases hf;exact h2 _
   |some l=>obtain⟨_,_,_,rfl⟩:=hf;exact h2 _
  refine h3.mono fun e w' he=> ?_
  obtain⟨cv,m',rfl,g1,g2⟩:=he
  exact hK _ _ _ g1 g2
 ·refine⟨fun f _=>hf.fn f,?_⟩
  rw[Oper.semAt_eq _ _ _ hnd,h1]
  refine⟨fun h=>(by rw[hf.depth]at h;cases h),?_⟩
  have h3:RoundIn fe (n-1) P l f tmps asn body w (Heard P F m h h' w v):=by
   cases rd with
   |none=>cases hf;exact h2 _
   |some l=>obtain⟨_,_,_,rfl⟩:=hf;exact h2 _
  refine h3.mono fun e w' he=> ?_
  obtain⟨cv,m',rfl,g1,g2⟩:=he
  exact hK _ _ _ g1 g2
theorem x7g(hP:POk P F gl eqT){ih:Code→St→Res}(hih:Sound P F ih){f:AV}{args:List AV}{h:Hp}{r:OpR}(hc:x0G (Ctx.of P gl eqT) ih f args h=some r):
  ∃v h',r= .val v h'∧HpLe h h'∧∀m w cf cargs,HRel P F m h w→VRel P F m f cf→LRel P F m args cargs.toList→Free m h h'→
   Acts P F m h h' w v (do let d←Deferred.ofValue cf cargs;invoke d.target d.args):=by
 unfold x0G at hc
 split at hc
 ·rename_i g first cap
  split at hc
  ·rename_i v hx
   cases hc
   refine⟨v,h,rfl,.refl _,fun m w cf cargs hr hf hA hF=> ?_⟩
   obtain⟨f',x,y,rfl,hfn,hx',hy'⟩:=hf.fn_inv
   cases hfn
   obtain⟨cv,w',g1,g2,g3,g4⟩:=hP.ext _ _ _ hx m w ((x++cargs)++y) (by rw[Y1F,Y1F];exact(hx'.append hA).append hy')
   exact .inl ⟨.value cv,cv,w',m,g1,.inl rfl,Y0t hr g2 g3,g4⟩
  obtain⟨v,h',fn,c,rfl,h1,h2,h3,h4⟩:=x1y hP hih hc
  refine⟨v,h',rfl,h3,fun m w cf cargs hr hf hA hF=> ?_⟩
  obtain⟨f',x,y,rfl,hfn,hx,hy⟩:=hf.fn_inv
  cases hfn
  refine .inr (.inl ⟨g,(x++cargs)++y,?_,fun n=>h4 m w n _ hr ?_ hF⟩)
  ·show Sem.run P (callFunc g ((x++cargs)++y)) w=_
   exact q3F h1 (hP.names g fn h1 (by rw[h2];rfl)) h2 _ w
  ·rw[Y1F,Y1F]
   exact(hx.append hA).append hy
 ·rename_i l
  obtain⟨v,h',rfl,h3,h4⟩:=x5H hih hc
  refine⟨v,h',rfl,h3,fun m w cf cargs hr hf hA hF=> ?_⟩
  obtain⟨f',x,y,rfl,hfn,hx,hy⟩:=hf.fn_inv
  cases hfn with
  |yield hm=>
  rename_i b z
  have hx0:x= #[]:=by have:=hx.cases_nil;simpa using this
  subst hx0
  obtain⟨f,tmps,asn,body,g1,_⟩:=h4 m w 0 cargs b z hm hr hA hF
  refine .inr (.inr ⟨b,f,tmps,asn,body,?_,fun n=> ?_⟩)
  ·show Sem.run P (Instr.yield b (#[]++cargs)) w=_
   rw[Array.empty_append];exact g1
  ·obtain⟨f2,tmps2,asn2,body2,g3,g4⟩:=h4 m w n cargs b z hm hr hA hF
   rw[g1]at g3;cases g3
   exact g4
 ·cases hc
end
end Go.Ax
namespace Go.Ax
section
variable{P:Program}{F:Nat→Option Obj}{gl:Nat→AV}{eqT:Knob}{m:Loc}
theorem z8C{t:TypeId}{i:TypeInfo}{mt:_}{name:String}{f:FuncId}{p:Bool}{d:TypeDesc}{v:Value}{w:World}{k:Nat}(hi:P.info? t=some i)(hd:P.underlying t=some d)(hm:i.methods.find? (·.name==name)=some mt)(hp:mt.path= #[])
  (hf:mt.func=some (f,p)) (hk:(p=true∧∃e,d= .pointer e)∨(p=false∧∀e,d≠ .pointer e)):(method (k+1) t v name).run P w= .ok (f,v) w:=by
 unfold method
 have h1:(typeInfo t).run P w= .ok i w:=by simp[typeInfo,hi]
 rw[Sem.run_bind,h1]
 simp only[Result.andThen,hm,hp,follow,Sem.run_bind,Sem.run_pure,hf]
 have h2:(receiverAt t (.val v) p (if(#[]:Array FieldStep).isEmpty=true then some ((name.splitOn ".").getLastD name)else none)).run P w= .ok v w:=by
  unfold receiverAt
  rw[Sem.run_bind,run_underlying hd]
  rcases hk with⟨rfl,e,rfl⟩|⟨rfl,hk⟩
  ·rfl
  ·cases d<;>first|rfl|exact absurd rfl (hk _)
 rw[h2]
theorem x3y{t:TypeId}{name:String}{f:FuncId}{v:Value}{w:World}(h:z9d P (Ctx.of P gl eqT) t name=some f):(method (P.types.size+Made.depth) t v name).run P w= .ok (f,v) w:=by
 unfold z9d at h
 split at h
 case h_2=>cases h
 rename_i i ti hi hti
 have hd:=q0A hti
 split at h
 case h_2=>cases h
 rename_i mt hm
 obtain⟨hp,h⟩:mt.path.isEmpty=true∧_:=by
  cases hp:mt.path.isEmpty with
  |false=>rw[hp]at h;cases h
  |true=>rw[hp]at h;exact⟨rfl,h⟩
 simp only[Y0V]at h
 have hp:mt.path= #[]:=by simpa using hp
 have hpos:0<Made.depth:=by decide
 have hn:P.types.size+Made.depth=(P.types.size+Made.depth-1)+1:=by omega
 rw[hn]
 split at h
 ·rename_i g e hf hdesc
  cases h
  exact z8C hi hd hm hp hf (.inl ⟨rfl,_,hdesc⟩)
 ·cases h
 ·cases h
 ·rename_i g hf hne
  cases h
  exact z8C hi hd hm hp hf (.inr ⟨rfl,fun e he=>hne _ he⟩)
 ·cases h
theorem x5a(hE:EqOk P eqT){op:BinOp}{t:TypeId}{ox oy:Operand}{w:World}{ti:TI}{ms:_}(ht:(Ctx.of P gl eqT).ti t=some ti)(hd:ti.desc= .interface ms)(hc:(z1v ox||z1v oy)=true)(hop:op= .eql∨op= .neq):
  (do eqGuard op t ox oy .nilIface .nilIface;binOp op t .nilIface .nilIface:Sem Value).run P w= .ok (.bool (op== .eql)) w:=by
 have hu:=q0A ht
 rw[hd]at hu
 have h1:(eqGuard op t ox oy .nilIface .nilIface).run P w= .ok () w:=by
  unfold eqGuard
  rcases hop with rfl|rfl<;>cases ox<;>cases oy<;>first|rfl|cases hc
 have h2:(Op.equalIn Op.maxDepth t .nilIface .nilIface).run P w= .ok true w:=by
  refine z9h (gl:=gl) (F:=fun _=>none) (m:=⟨fun _=>none,fun _=>none⟩) hE w 1 t .nilif .nilif true ?_ _ _ .nilif .nilif _ (by decide)
  unfold eqA z0x
  rw[ht]
  simp only[hd]
 have h3:=z0M (t:=t) (cx:=.nilIface) (cy:=.nilIface) (by rintro⟨_,_,_,_,h,_⟩;cases h) (by rintro⟨_,_,h,_⟩;cases h) nofun nofun
 rw[Sem.run_bind,h1]
 simp only[Result.andThen]
 rcases hop with rfl|rfl
 ·rw[h3.1,Sem.run_bind]
  unfold Op.equal
  rw[h2];rfl
 ·rw[h3.2,Sem.run_bind]
  unfold Op.equal
  rw[h2];rfl
theorem x6K(hP:POk P F gl eqT){ih:Code→St→Res}(hih:Sound P F ih){x:AV}{name:String}{t:TypeId}{f:FuncId}{args:List AV}{h:Hp}{r:OpR}(hm:z9d P (Ctx.of P gl eqT) t name=some f)
  (hc:z5I (Ctx.of P gl eqT) ih f (x::args) h=some r):
  ∃v h',r= .val v h'∧HpLe h h'∧∀m w cx cargs,HRel P F m h w→VRel P F m x cx→LRel P F m args cargs.toList→Free m h h'→
   Acts P F m h h' w v (invoke (.fn (.method name) #[]) (#[.iface t cx]++cargs)):=by
 obtain⟨v,h',fn,c,rfl,h1,h2,h3,h4⟩:=x1y hP hih hc
 refine⟨v,h',rfl,h3,fun m w cx cargs hr hx hA hF=> ?_⟩
 refine .inr (.inl ⟨f, #[cx]++cargs,?_,fun n=>h4 m w n _ hr ?_ hF⟩)
 ·have e1:(#[Value.iface t cx]++cargs)[0]? =some (.iface t cx):=by simp[Y1E]
  have e2:(#[Value.iface t cx]++cargs).extract 1 (#[Value.iface t cx]++cargs).size=cargs:=by
   apply Y1P
   simp
  show Sem.run P (invoke (.fn (.method name) #[]) (#[.iface t cx]++cargs)) w=_
  unfold invoke
  simp only[e1,e2]
  show Sem.run P (callMethod (.iface t cx) name cargs) w=_
  unfold callMethod
  simp only[Sem.run_bind]
  have hpr:Sem.run P program w= .ok P w:=rfl
  rw[hpr]
  simp only[Result.andThen]
  rw[x3y hm]
  exact q3F h1 (hP.names f fn h1 (by rw[h2];rfl)) h2 _ w
 ·rw[Y1F]
  exact .cons hx hA
theorem x7M{ih:Code→St→Res}{s:St}{o:Oper}{r:OpR}(ho:opA P (Ctx.of P gl eqT) ih s o=some r)(hr:∀d,r≠ .push d):∀c,o.op≠ .defer c:=by
 intro c hc
 unfold opA at ho
 rw[hc]at ho
 dsimp only at ho
 split at ho
 ·unfold x7U at ho
  split at ho
  ·cases ho;exact hr _ rfl
  ·cases ho
 ·unfold x7T at ho
  split at ho
  ·cases ho;exact hr _ rfl
  ·cases ho
 ·cases ho
theorem x3A{t kt e:TypeId}{ti:TI}{w:World}(ht:(Ctx.of P gl eqT).ti t=some ti)(hd:ti.desc= .map kt e){rs:Option Value}(hrs:∀v,rs=some v→∃k n,v= .int k n):
    (Instr.makeMap t rs).run P w= .ok (.map (some w.heap.size)) {w with heap:=w.heap.push (.map #[] 0)}:=by
  have hu:=q0A ht
  rw[hd]at hu
  cases rs with
  |none=>rfl
  | some v=>
    obtain⟨k,n,rfl⟩:=hrs v rfl
    simp only[Instr.makeMap,Sem.run_bind,run_underlying hu,Result.andThen_ok]
    rfl
theorem x2U(hP:POk P F gl eqT){ih:Code→St→Res}(hih:Sound P F ih){s:St}{o:Oper}{r:OpR}(ho:opA P (Ctx.of P gl eqT) ih s o=some r)(hnd:∀c,o.op≠ .defer c):
    ∃v h',r= .val v h'∧HpLe s.h h'∧(∀c,o.op≠ .defer c)∧∀m (a:Act) w,HRel P F m s.h w→TRel P F m s.tm s.n a.tmps→Free m s.h h'→Acts P F m s.h h' w v (execOp a.eval o):=by
  unfold opA at ho
  unfold execOp
  cases hop:o.op<;>simp only[hop]at ho⊢
  case move x=>cases ho;exact⟨_,_,rfl,.refl _,nofun,fun m a w hr ht hF=>.inl ⟨_,_,w,m,rfl,.inl rfl,Y0t hr rfl (Y0r w),q0F hP ht x⟩⟩
  case assign x=>cases ho;exact⟨_,_,rfl,.refl _,nofun,fun m a w hr ht hF=>.inl ⟨_,_,w,m,rfl,.inl rfl,Y0t hr rfl (Y0r w),q0F hP ht x⟩⟩
  case pick c a b=>
    split at ho
    case h_2=>cases ho
    rename_i t hc
    cases ho
    refine⟨_,_,rfl,.refl _,nofun,fun m act w hr ht hF=> ?_⟩
    have h1:=q0F hP ht c
    rw[hc]at h1
    have h2:=h1.bool_inv
    refine .inl ⟨.value (if t then act.eval a else act.eval b),_,w,m,?_,.inl rfl,Y0t hr rfl (Y0r w),?_⟩
    ·rw[h2];simp[asBool]
    · cases t
      ·exact q0F hP ht b
      ·exact q0F hP ht a
  case alloc t=>
    obtain⟨y,h1,rfl⟩:=q0M ho
    exact⟨_,_,rfl,alloc_le h1,nofun,fun m a w hr ht hF=>.inl (.ofV (alloc_rel h1 hr hF))⟩
  case box t x=>
    obtain⟨y,h1,rfl⟩:=q0M ho
    exact⟨_,_,rfl,box_le h1,nofun,fun m a w hr ht hF=>.inl (.ofV (box_rel h1 (q0F hP ht x) hr hF))⟩
  case build t ps=>
    obtain⟨y,h1,rfl⟩:=q0M ho
    exact⟨_,_,rfl,.refl _,nofun,fun m a w hr ht hF=>.inl (.pureV hr (build_rel h1 (PRel.map (q0F hP ht) ps)))⟩
  case buildSlice t n ps=>
    obtain⟨y,h1,rfl⟩:=q0M ho
    exact⟨_,_,rfl,x0d h1,nofun,fun m a w hr ht hF=>.inl (.ofV (z8b h1 (PRel.map (q0F hP ht) ps) hr hF))⟩
  case load t x=>
    obtain⟨y,h1,rfl⟩:=q0M ho
    exact⟨_,_,rfl,.refl _,nofun,fun m a w hr ht hF=>.inl (.pureV hr (z8H h1 (q0F hP ht x) hr))⟩
  case store t x y=>
    obtain⟨y',h1,rfl⟩:=q0M ho
    exact⟨_,_,rfl,x5U h1,nofun,fun m a w hr ht hF=>.inl (.ofU (x3h h1 (q0F hP ht x) (q0F hP ht y) hr))⟩
  case nilCheck x=>
    split at ho
    · rename_i r' o' hx
      cases ho
      refine⟨_,_,rfl,.refl _,nofun,fun m a w hr ht hF=> ?_⟩
      have h1:=q0F hP ht x
      rw[hx]at h1
      obtain⟨b,z,hm,h2⟩:=h1.ptr_inv
      rw[h2]
      exact .inl ⟨_,_,w,m,rfl,.inl rfl,Y0t hr rfl (Y0r w),.ptr hm⟩
    · rename_i xs i o' hx
      cases ho
      refine⟨_,_,rfl,.refl _,nofun,fun m a w hr ht hF=> ?_⟩
      have h1:=q0F hP ht x
      rw[hx]at h1
      generalize a.eval x=cx at h1
      cases h1 with
      |iptr es f hF hi' hes hf hc=>exact .inl ⟨_,_,w,m,rfl,.inl rfl,Y0t hr rfl (Y0r w),.iptr es f hF hi' hes hf hc⟩
    · rename_i f p q hx
      cases ho
      refine⟨_,_,rfl,.refl _,nofun,fun m a w hr ht hF=> ?_⟩
      have h1:=q0F hP ht x
      rw[hx]at h1
      obtain⟨f',u,v,h2,hf,hu,hv⟩:=h1.fn_inv
      rw[h2]at h1⊢
      cases hf
      exact .inl ⟨_,_,w,m,rfl,.inl rfl,Y0t hr rfl (Y0r w),h1⟩
    · rename_i f p q hx
      cases ho
      refine⟨_,_,rfl,.refl _,nofun,fun m a w hr ht hF=> ?_⟩
      have h1:=q0F hP ht x
      rw[hx]at h1
      obtain⟨f',u,v,h2,hf,hu,hv⟩:=h1.fn_inv
      rw[h2]at h1⊢
      cases hf
      exact .inl ⟨_,_,w,m,rfl,.inl rfl,Y0t hr rfl (Y0r w),h1⟩
    ·cases ho
  case binOp op t x y z=>
    split at ho
    · rename_i hx hy
      split at ho
      · rename_i ti hc hti
        split at ho
        case h_2=>cases ho
        rename_i ms hd
        cases ho
        refine⟨_,_,rfl,.refl _,nofun,fun m a w hr ht hF=> ?_⟩
        have h1:=q0F hP ht x
        have h2:=q0F hP ht y
        rw[hx]at h1
        rw[hy]at h2
        rw[h1.nilif_inv,h2.nilif_inv]
        exact .inl (.pureV hr ⟨_,x5a hP.eq hti hd hc (.inl rfl),.bool _⟩)
      · rename_i ti hc hti
        split at ho
        case h_2=>cases ho
        rename_i ms hd
        cases ho
        refine⟨_,_,rfl,.refl _,nofun,fun m a w hr ht hF=> ?_⟩
        have h1:=q0F hP ht x
        have h2:=q0F hP ht y
        rw[hx]at h1
        rw[hy]at h2
        rw[h1.nilif_inv,h2.nilif_inv]
        exact .inl (.pureV hr ⟨_,x5a hP.eq hti hd hc (.inr rfl),.bool _⟩)
      ·cases ho
    · obtain⟨y',h1,rfl⟩:=q0M ho
      exact⟨_,_,rfl,.refl _,nofun,fun m a w hr ht hF=>.inl (.pureV hr (x7e hP.eq h1 (q0F hP ht x) (q0F hP ht y)))⟩
  case unOp op t x=>
    obtain⟨y,h1,rfl⟩:=q0M ho
    exact⟨_,_,rfl,.refl _,nofun,fun m a w hr ht hF=>.inl (.pureV hr (x8D h1 (q0F hP ht x)))⟩
  case convert p q x=>
    cases hsl:q3I (s.ev (Ctx.of P gl eqT) x)with
    | true=>
      rw[hsl,Y0V]at ho
      obtain⟨y,h1,rfl⟩:=q0M ho
      exact⟨_,_,rfl,.refl _,nofun,fun m a w hr ht hF=>.inl (.pureV hr (convB_rel hsl h1 (q0F hP ht x) hr))⟩
    | false=>
      rw[hsl,Y1b]at ho
      obtain⟨y,h1,rfl⟩:=q0M ho
      exact⟨_,_,rfl,.refl _,nofun,fun m a w hr ht hF=>.inl (.pureV hr (convA_rel h1 (q0F hP ht x)))⟩
  case range t x=>
    obtain⟨y,h1,rfl⟩:=q0M ho
    exact⟨_,_,rfl,rangeA_le h1,nofun,fun m a w hr ht hF=>.inl (.ofV (x6k h1 (q0F hP ht x) hr hF))⟩
  case next x str=>
    cases str with
    | true=>
      rw[Y0V]at ho
      obtain⟨y,h1,rfl⟩:=q0M ho
      refine⟨_,_,rfl,nextA_le h1,nofun,fun m a w hr ht hF=>.inl (.ofV ?_)⟩
      obtain⟨cv,w',q1,q2,q3⟩:=nextA_rel (ty:=o.type) h1 (q0F hP ht x) hr
      exact⟨cv,w',m,q1,q2,q3⟩
    | false=>
      rw[Y1b]at ho
      obtain⟨y,h1,rfl⟩:=q0M ho
      refine⟨_,_,rfl,nextM_le h1,nofun,fun m a w hr ht hF=>.inl (.ofV ?_)⟩
      obtain⟨cv,w',q1,q2,q3⟩:=nextM_rel (ty:=o.type) h1 (q0F hP ht x) hr
      exact⟨cv,w',m,q1,q2,q3⟩
  case entry x=>
    obtain⟨y,h1,rfl⟩:=q0M ho
    exact⟨_,_,rfl,.refl _,nofun,fun m a w hr ht hF=>.inl (.pureV hr (x6O h1 (q0F hP ht x) hr))⟩
  case mapEntry t x k=>
    obtain⟨y,h1,rfl⟩:=q0M ho
    refine⟨_,_,rfl,x1R h1,nofun,fun m a w hr ht hF=>.inl (.ofV ?_)⟩
    obtain⟨cv,w',q1,q2,q3⟩:=z9O hP.eq h1 (q0F hP ht x) (q0F hP ht k) hr
    exact⟨cv,w',m,q1,q2,q3⟩
  case entryStore t x st y=>
    obtain⟨y',h1,rfl⟩:=q0M ho
    exact⟨_,_,rfl,z7Y h1,nofun,fun m a w hr ht hF=>.inl (.ofU (z7E h1 (q0F hP ht x) (q0F hP ht st) (q0F hP ht y) hr))⟩
  case defer c=>exact absurd hop (hnd c)
  case makeInterface t x=>
    split at ho
    case h_2=>cases ho
    rename_i ti hti
    split at ho
    ·cases ho
    rename_i hd
    cases ho
    refine⟨_,_,rfl,.refl _,nofun,fun m a w hr ht hF=>.inl (.pureV hr ⟨.iface t (a.eval x),?_,.iface t (q0F hP ht x)⟩)⟩
    have hu:=q0A hti
    unfold Instr.makeInterface
    rw[Sem.run_bind,run_underlying hu]
    simp only[Result.andThen]
    rfl
  case makeFunc f p q=>
    split at ho
    case h_2=>cases ho
    rename_i g
    cases ho
    refine⟨_,_,rfl,.refl _,nofun,fun m a w hr ht hF=>.inl (.pureV hr ⟨_,rfl,?_⟩)⟩
    have h1:=q9y (C:=Ctx.of P gl eqT) (q0F hP ht) p
    have h2:=q9y (C:=Ctx.of P gl eqT) (q0F hP ht) q
    exact .fn (.func g) (by have:=h1.len;simpa using this) (fun i x y hx hy=>h1.at' i x y hx (by simpa using hy)) (by have:=h2.len;simpa using this) (fun i x y hx hy=>h2.at' i x y hx (by simpa using hy))
  case makeMap t rs=>
    split at ho
    case h_2=>cases ho
    rename_i n0 ti hn0 hti
    split at ho
    case h_2=>cases ho
    rename_i kt0 et0 hd0
    cases ho
    refine⟨_,_,rfl,.new _ _,nofun,fun m a w hr ht hF=>.inl (.ofV ⟨_,_,_,x3A hti hd0 (fun v hv=>by
      cases rs with
      |none=>cases hv
      | some x=>
        have hv':a.eval x=v:=Y1Y hv
        subst hv'
        have hx:=q0F hP ht x
        revert hn0
        cases hxv:s.ev (Ctx.of P gl eqT) x with
        |int k n=>rw[hxv]at hx;intro _;exact⟨k,n,hx.int_inv⟩
        |_=>intro hn0;simp only[hxv]at hn0;cases hn0),Step.alloc hr (hF _ (Y0u _) (Y0B _)) (z:=0) rfl ⟨rfl,rfl,rfl⟩ ⟨#[],rfl,rfl,fun i x y h _=>by simp at h⟩,.map (Y0v _ _ _ _)⟩)⟩
  case makeSlice t l c=>
    obtain⟨y,h1,rfl⟩:=q0M ho
    exact⟨_,_,rfl,x1S h1,nofun,fun m a w hr ht hF=>.inl (.ofV (z9Q h1 (q0F hP ht l) (q0F hP ht c) hr hF))⟩
  case slice t x lo hi mx=>
    obtain⟨y,h1,rfl⟩:=q0M ho
    exact⟨_,_,rfl,.refl _,nofun,fun m a w hr ht hF=>.inl (.pureV hr (x3n h1 (q0F hP ht x) (OVRel.map (q0F hP ht) lo) (OVRel.map (q0F hP ht) hi) (OVRel.map (q0F hP ht) mx) hr))⟩
  case fieldAddr t x k=>
    obtain⟨y,h1,rfl⟩:=q0M ho
    exact⟨_,_,rfl,.refl _,nofun,fun m a w hr ht hF=>.inl (.pureV hr (x3O h1 (q0F hP ht x)))⟩
  case field t x k=>
    obtain⟨y,h1,rfl⟩:=q0M ho
    exact⟨_,_,rfl,.refl _,nofun,fun m a w hr ht hF=>.inl (.pureV hr (x3N h1 (q0F hP ht x)))⟩
  case indexAddr t x i=>
    obtain⟨y,h1,rfl⟩:=q0M ho
    exact⟨_,_,rfl,.refl _,nofun,fun m a w hr ht hF=>.inl (.pureV hr (x3I h1 (q0F hP ht x) (q0F hP ht i)))⟩
  case index t x i=>
    obtain⟨y,h1,rfl⟩:=q0M ho
    exact⟨_,_,rfl,.refl _,nofun,fun m a w hr ht hF=>.inl (.pureV hr (x3H h1 (q0F hP ht x) (q0F hP ht i)))⟩
  case lookup t x k ok=>
    obtain⟨y,h1,rfl⟩:=q0M ho
    exact⟨_,_,rfl,.refl _,nofun,fun m a w hr ht hF=>.inl (.pureV hr (x3C hP.eq h1 (q0F hP ht x) (q0F hP ht k) hr))⟩
  case mapUpdate t x k y=>
    obtain⟨y',h1,rfl⟩:=q0M ho
    exact⟨_,_,rfl,x1a h1,nofun,fun m a w hr ht hF=>.inl (.ofU (z8E hP.eq h1 (q0F hP ht x) (q0F hP ht k) (q0F hP ht y) hr))⟩
  case insert t x k y=>
    obtain⟨y',h1,rfl⟩:=q0M ho
    exact⟨_,_,rfl,x1a h1,nofun,fun m a w hr ht hF=>.inl (.ofU (z8E hP.eq h1 (q0F hP ht x) (q0F hP ht k) (q0F hP ht y) hr))⟩
  case typeAssert x xt t ok=>
    obtain⟨y,h1,rfl⟩:=q0M ho
    exact⟨_,_,rfl,.refl _,nofun,fun m a w hr ht hF=>.inl (.pureV hr (z7B h1 (q0F hP ht x)))⟩
  case extract x i=>
    split at ho
    case h_2=>cases ho
    rename_i vs hx
    obtain⟨y,h1,rfl⟩:=q0M ho
    refine⟨_,_,rfl,.refl _,nofun,fun m a w hr ht hF=> ?_⟩
    have h2:=q0F hP ht x
    rw[hx]at h2
    obtain⟨c,h3,h4⟩:=LRel.of_tup h2
    rw[h3]
    obtain⟨cv,h5,h6⟩:=h4.get h1
    rw[Y1U]at h5
    exact .inl (.pureV hr ⟨cv,by simp[Instr.extract,h5],h6⟩)
  case call c=>
    unfold resolve
    cases hcal:c.callee with
    | value f=>
      simp only[hcal]at ho⊢
      obtain⟨v,h',rfl,h1,h2⟩:=x7g hP hih ho
      exact⟨v,h',rfl,h1,nofun,fun m a w hr ht hF=>h2 m w _ _ hr (q0F hP ht f) (q9y (q0F hP ht) c.args) hF⟩
    | invoke rc name=>
      simp only[hcal]at ho⊢
      split at ho
      case h_2=>cases ho
      rename_i t x hx
      split at ho
      case h_2=>cases ho
      rename_i f hm
      obtain⟨v,h',rfl,h1,h2⟩:=x6K hP hih hm ho
      refine⟨v,h',rfl,h1,nofun,fun m a w hr ht hF=> ?_⟩
      have h3:=q0F hP ht rc
      rw[hx]at h3
      obtain⟨y,h4,h5⟩:=h3.iface_inv
      rw[h4]
      exact h2 m w y _ hr h5 (q9y (q0F hP ht) c.args) hF
    | builtin b=>
      simp only[hcal]at ho⊢
      have key:=x2g ho
      obtain⟨v,h',rfl⟩:=key
      refine⟨v,h',rfl,x4f ho,nofun,fun m a w hr ht hF=> ?_⟩
      obtain⟨v2,h2,h3,h4⟩:=x2h hP.eq (ty:=o.type) (cn:=c.args.map fun| .const _=>true|_=>false) ho (q9y (q0F hP ht) c.args) hr (fun h'' ⟨v'',e⟩=>by cases e;exact hF)
      cases h3
      exact .inl h4
  all_goals cases ho
end
end Go.Ax
namespace Go.Ax
section
variable{P:Program}{F:Nat→Option Obj}{gl:Nat→AV}{eqT:Knob}{m:Loc}
theorem Post.after{h h1:Hp}{w w1:World}{m1:Loc}{s':St}{e:Ex}{x:Exit}{a:Act}{w':World}(hs:Step P F m h h1 w w1 m1)(hp:Post P F m1 h1 s' w1 e x a w'):Post P F m h s' w e x a w':=by
 obtain⟨m',h1,h2,h3⟩:=hp
 exact⟨m',h1,hs.trans h2,h3⟩
theorem x2T{s s':St}{d:Option Nat}{v:AV}{h:Hp}(hp:putD s d v h=some s'):s'.h=h∧s'.rd=s.rd∧s'.n=s.n∧s'.ds=s.ds:=by
 unfold putD at hp
 split at hp
 ·cases hp;exact⟨rfl,rfl,rfl,rfl⟩
 ·obtain⟨_,rfl⟩:=q0i hp;exact⟨rfl,rfl,rfl,rfl⟩
theorem z6L(m:Loc):VRel P F m (.tup []) Go.undef:=Y0p .nil
theorem q9d{α:Type}{l:List α}{i:Nat}{x:α}{r:List α}(h:l.drop i=x::r):l[i]? =some x∧l.drop (i+1)=r:=by
 constructor
 ·have:=Y1K (·[0]?) h
  simpa using this
 ·have:=Y1K (·.drop 1) h
  simpa [List.drop_drop,Nat.add_comm]using this
def z6q(fe:Fence)(n:Nat)(P:Program)(it:Item)(c:Code)(Q:Exit→Act→World→Prop)(a:Act)(w:World):Prop:=
 ∀(b:Frame) (k:List Item) (cs:List Frame),b.roundOf=fe.round→fe.fn b.fn→fe.room (cs.length+1+n)→
  ∃e a' w',Q e a' w'∧ArrivesIn (Machine.fenced P fe) P (lone (b.atR a (.code c::it::k)) cs w) b k cs e a' w'
variable{fe:Fence}{n:Nat}{Q:Exit→Act→World→Prop}{a:Act}{w:World}
theorem x3f{c:Code}(h:z6q fe n P (.inLoop c) c Q a w):(Code.loop c).wpIn fe n P Q a w:=fun b k cs hro hb hr=>
 let ⟨e,a',w',q,r⟩:=h b k cs hro hb hr
 ⟨e,a',w',q,.of_steps (.one (fenced_calm hb hr rfl) stepR_loop) r⟩
theorem x3e{c:Code}(h:c.wpIn fe n P (Exit.then (z6q fe n P (.inLoop c) c Q) Q) a w):z6q fe n P (.inLoop c) c Q a w:=by
  intro b k cs hro hb hr
  obtain⟨e,a₁,w₁,hq,harr⟩:=h b (.inLoop c::k) cs hro hb hr
  cases e with
  | normal=>
    obtain⟨e₂,a₂,w₂,hq₂,harr₂⟩:=hq b k cs hro hb hr
    exact⟨e₂,a₂,w₂,hq₂,.of_steps (StepsIn.trans harr (.one (fenced_calm hb hr rfl) stepR_inLoop)) harr₂⟩
  |exit id=>exact⟨_,a₁,w₁,hq,.pass (x:=.inLoop c) rfl (fun _ _=>.inl (by simp)) harr⟩
  |goto l=>exact⟨_,a₁,w₁,hq,.pass (x:=.inLoop c) rfl (fun _ _=>.inl (by simp)) harr⟩
  |ret=>exact⟨_,a₁,w₁,hq,.pass (x:=.inLoop c) rfl (fun _ _=>.inl (by simp)) harr⟩
  |panic ch=>exact⟨_,a₁,w₁,hq,.pass (x:=.inLoop c) rfl (fun _ _=>.inl (by simp)) harr⟩
  |outgrown=>exact⟨_,a₁,w₁,hq,.pass (x:=.inLoop c) rfl (fun _ _=>.inl (by simp)) harr⟩
theorem x3j{b:Frame}{k:List Item}{cs:List Frame}{c:Code}:Go.step P (lone (b.atR a (.code (.scope c)::k)) cs w)= .next (lone (b.atR a (.code c:: .inScope c::k)) cs w):=
 step_lone_go (by simp[stepG,stepG.exec,Frame.atR])
theorem z9J{b:Frame}{k:List Item}{cs:List Frame}{c:Code}:Go.step P (lone (b.atR a (.inScope c::k)) cs w)= .next (lone (b.atR a k) cs w):=
 step_lone_go (by simp[stepG,stepG.exec,Frame.atR])
theorem z9G{c:Code}(h:z6q fe n P (.inScope c) c Q a w):(Code.scope c).wpIn fe n P Q a w:=fun b k cs hro hb hr=>
 let ⟨e,a',w',q,r⟩:=h b k cs hro hb hr
 ⟨e,a',w',q,.of_steps (.one (fenced_calm hb hr rfl) x3j) r⟩
def z6N(fe:Fence)(n:Nat)(P:Program)(body:Code)(Q:Exit→Act→World→Prop):Exit→Act→World→Prop
  | .goto l,a,w=>match findLabel body l with
    |some rest=>z6q fe n P (.inScope body) rest Q a w
    |none=>Q (.goto l) a w
  |e,a,w=>Q e a w
theorem x1D{body c:Code}(h:c.wpIn fe n P (z6N fe n P body Q) a w):z6q fe n P (.inScope body) c Q a w:=by
  intro b k cs hro hb hr
  obtain⟨e,a₁,w₁,hq,harr⟩:=h b (.inScope body::k) cs hro hb hr
  cases e with
  |normal=>exact⟨.normal,a₁,w₁,hq,StepsIn.trans harr (.one (fenced_calm hb hr rfl) z9J)⟩
  | exit id=>
    have hx:exitTo id (.inScope body::k)=exitTo id k:=by simp[exitTo]
    exact⟨_,a₁,w₁,hq,fun k' hk=>harr.1 k' (by rw[hx];exact hk),fun hr' hk=>harr.2 hr' (by rw[hx];exact hk)⟩
  | goto l=>
    cases hf:findLabel body l with
    | some rest=>
      have hg:gotoIn l (.inScope body::k)=some (.code rest:: .inScope body::k):=by simp[gotoIn,hf]
      simp only[z6N,hf]at hq
      obtain⟨e₂,a₂,w₂,hq₂,harr₂⟩:=hq b k cs hro hb hr
      exact⟨e₂,a₂,w₂,hq₂,.of_steps (harr.1 _ hg) harr₂⟩
    | none=>
      have hg:gotoIn l (.inScope body::k)=gotoIn l k:=by simp[gotoIn,hf]
      simp only[z6N,hf]at hq
      exact⟨_,a₁,w₁,hq,fun k' hk=>harr.1 k' (by rw[hg];exact hk),fun hr' hk=>harr.2 hr' (by rw[hg];exact hk)⟩
  |ret=>exact⟨_,a₁,w₁,hq,harr⟩
  |panic ch=>exact⟨_,a₁,w₁,hq,harr⟩
  |outgrown=>exact⟨_,a₁,w₁,hq,harr⟩
end
end Go.Ax
namespace Go.Ax
section
variable{P:Program}{F:Nat→Option Obj}{gl:Nat→AV}{eqT:Knob}{m:Loc}
theorem x3q{w:World}{b:Nat}{r:Loop}(h:w.heap[b]? =some (.loop r))(hs:r.state≠ .busy):
  (Instr.endLoop b).run P w= .ok r.pending {w with heap:=w.heap.setIfInBounds b (.loop {r with state:=.exhausted})}:=by
 unfold Instr.endLoop
 rw[Sem.run_bind,q9z h]
 have hb:(r.state==LoopState.busy)=false:=by cases hst:r.state<;>first|rfl|exact absurd hst hs
 simp only[Result.andThen,hb,Y1l,Y1m,Sem.run_bind,Sem.run_pure]
 rw[q7N h rfl]
def DrawS(P:Program)(F:Nat→Option Obj)(C:Ctx)(ih:Code→St→Res):Prop:=
 ∀(ops:Array Oper) s e s',x2O P C ih ops.toList (masks [] ops.toList) s=some (e,s')→HpLe s.h s'.h∧s'.rd=s.rd∧s'.n=s.n∧
  ∀m a w fe k id,HRel P F m s.h w→ARel P F m s a→FenRel m s.rd fe→Free m s.h s'.h→(Code.region id ops true).wpIn fe k P (Post P F m s.h s' w e) a w
end
end Go.Ax
namespace Go.Ax
section
variable{P:Program}{C:Ctx}{ih:Code→St→Res}
theorem z9D(C:Ctx)(s:St):∀l:List Operand,allA C s l=l.map (s.ev C)
 |[]=>rfl
 |x::l=>by show s.ev C x::allA C s l=_;rw[z9D C s l];rfl
theorem q6B{s s':St}{l:List Operand}(h:∀x∈l,s.ev C x=s'.ev C x):allA C s l=allA C s' l:=by
 rw[z9D,z9D];exact Y1Z h
theorem z7f{s s':St}{ps:Array (Nat×Operand)}(h:∀x∈(ps.toList.map (·.2)).toArray,s.ev C x=s'.ev C x):(ps.toList.map fun p=>(p.1,s.ev C p.2))=ps.toList.map fun p=>(p.1,s'.ev C p.2):=
 Y1Z fun p hp=>by rw[h p.2 (by simp only[List.mem_toArray];exact List.mem_map_of_mem hp)]
theorem z3E{s s':St}{o:Option Operand}(h:∀x,o=some x→s.ev C x=s'.ev C x):o.map (s.ev C)=o.map (s'.ev C):=by
 cases o with
 |none=>rfl
 |some x=>simp[h x rfl]
theorem q7T{s s':St}{o:Oper}(hh:s.h=s'.h)(hev:∀x∈o.op.operands,s.ev C x=s'.ev C x):opA P C ih s o=opA P C ih s' o:=by
  unfold opA
  cases hop:o.op<;>rw[hop]at hev<;>simp only[Op.operands]at hev
  case build t ps=>simp only[z7f hev,hh]
  case buildSlice t n ps=>simp only[z7f hev,hh]
  case makeFunc f p q=>
    have h1:allA C s p.toList=allA C s' p.toList:=q6B fun x hx=>hev x (by simp at hx⊢;exact .inl hx)
    have h2:allA C s q.toList=allA C s' q.toList:=q6B fun x hx=>hev x (by simp at hx⊢;exact .inr hx)
    simp only[h1,h2,hh]
  case slice t x lo hi mx=>
    have h0:s.ev C x=s'.ev C x:=hev x (by simp)
    have h1:lo.map (s.ev C)=lo.map (s'.ev C):=z3E fun y hy=>hev y (by simp[hy])
    have h2:hi.map (s.ev C)=hi.map (s'.ev C):=z3E fun y hy=>hev y (by simp[hy])
    have h3:mx.map (s.ev C)=mx.map (s'.ev C):=z3E fun y hy=>hev y (by simp[hy])
    simp only[h0,h1,h2,h3,hh]
  case call c=>
    have h1:allA C s c.args.toList=allA C s' c.args.toList:=q6B fun x hx=>hev x (by
      unfold Call.operands
      cases c.callee<;>simp at hx⊢<;>simp[hx])
    cases hcal:c.callee with
    | value f=>
      have h2:s.ev C f=s'.ev C f:=hev f (by unfold Call.operands;rw[hcal];simp)
      simp only[hcal,h1,h2,hh]
    | invoke r name=>
      have h2:s.ev C r=s'.ev C r:=hev r (by unfold Call.operands;rw[hcal];simp)
      simp only[hcal,h1,h2,hh]
    |builtin b=>simp only[hcal,h1,hh]
  case defer c=>
    have h1:allA C s c.args.toList=allA C s' c.args.toList:=q6B fun x hx=>hev x (by
      unfold Call.operands
      cases c.callee<;>simp at hx⊢<;>simp[hx])
    cases hcal:c.callee with
    | value f=>
      have h2:s.ev C f=s'.ev C f:=hev f (by unfold Call.operands;rw[hcal];simp)
      simp only[hcal,h1,h2]
    |invoke r name=>simp only[hcal]
    |builtin b=>cases b<;>simp only[hcal,h1]
  case makeMap t rs=>
    cases rs with
    |none=>simp only[hh]
    |some x=>have h2:s.ev C x=s'.ev C x:=hev x (by simp);simp only[h2,hh]
  all_goals first
    |rfl
    |(simp at hev;simp only[hev,hh];done)
    |(simp only[hh];done)
structure Loc2(h h' g g':Hp)(wr:List Nat):Prop where
 nx:g'.nx=h'.nx
 inn:∀r,(r∈wr∨(h.nx≤r∧r<h'.nx))→g'.get r=h'.get r
 out:∀r,r∉wr→¬(h.nx≤r∧r<h'.nx)→g'.get r=g.get r∧h'.get r=h.get r
variable{h h' g:Hp}
theorem Loc2.same{wr:List Nat}(hnx:g.nx=h.nx)(hw:∀r∈wr,g.get r=h.get r):Loc2 h h g g wr:=
 ⟨hnx,fun r hr=>by rcases hr with hr|⟨h1,h2⟩;exact hw r hr;omega,fun _ _ _=>⟨rfl,rfl⟩⟩
abbrev Y2a:=@Loc2.same
theorem Loc2.mk_new{wr:List Nat}(hnx:g.nx=h.nx)(hw:∀r∈wr,g.get r=h.get r)(o:AObj):Loc2 h (h.new o) g (g.new o) wr:=by
 refine⟨by simp[Hp.nx_new,hnx],fun r hr=> ?_,fun r _ h2=> ?_⟩
 ·rw[Y0x,Y0x,hnx]
  by_cases e:h.nx=r
  ·rw[Y0e e,Y0e e]
  ·rw[Y0c e,Y0c e]
   rcases hr with hr|⟨h1,h2⟩
   ·exact hw r hr
   ·rw[Hp.nx_new]at h2;omega
 ·rw[Y0x,Y0x,hnx]
  have e:¬h.nx=r:=fun e=>h2 ⟨by omega,by rw[Hp.nx_new];omega⟩
  rw[Y0c e,Y0c e];exact⟨rfl,rfl⟩
abbrev Y2b:=@Loc2.mk_new
theorem Loc2.mk_put{wr:List Nat}(hnx:g.nx=h.nx)(hw:∀r∈wr,g.get r=h.get r){r:Nat}(hr:r∈wr)(o:AObj):Loc2 h (h.put r o) g (g.put r o) wr:=by
 refine⟨hnx,fun s hs=> ?_,fun s h1 _=> ?_⟩
 ·rw[Y0y,Y0y]
  by_cases e:r=s
  ·rw[Y0e e,Y0e e]
  ·rw[Y0c e,Y0c e]
   rcases hs with hs|⟨h1,h2⟩
   ·exact hw s hs
   ·rw[Hp.nx_put]at h2;omega
 ·have e:¬r=s:=fun e=>h1 (e▸hr)
  rw[Y0y,Y0y,Y0c e,Y0c e];exact⟨rfl,rfl⟩
abbrev Y2c:=@Loc2.mk_put
theorem Loc2.mk_putNew{wr:List Nat}(hnx:g.nx=h.nx)(hw:∀r∈wr,g.get r=h.get r){r:Nat}(hr:r∈wr)(o q:AObj):Loc2 h ((h.put r o).new q) g ((g.put r o).new q) wr:=by
 have h1:=Y2c hnx hw hr o
 have h2:=Y2b (h:=h.put r o) (g:=g.put r o) (wr:=wr) h1.nx (fun s hs=>h1.inn s (.inl hs)) q
 refine⟨h2.nx,fun s hs=>h2.inn s hs,fun s h3 h4=> ?_⟩
 obtain⟨a1,a2⟩:=h2.out s h3 h4
 obtain⟨b1,b2⟩:=h1.out s h3 (by rw[Hp.nx_put];omega)
 exact⟨a1.trans b1,a2.trans b2⟩
theorem z1H{t:TypeId}{p:AV}(hg:∀r∈q0z p,g.get r=h.get r):loadAt C t p g=loadAt C t p h:=by
 unfold loadAt
 cases C.ti t with
 |none=>rfl
 |some ti=>cases p<;>first|rfl|(simp only[hg _ (Y2d.2 rfl)])
theorem x3i{t:TypeId}{p v:AV}(hs:storeAt C t p v h=some h')(hnx:g.nx=h.nx)(hg:∀r∈q0z p,g.get r=h.get r):∃g',storeAt C t p v g=some g'∧Loc2 h h' g g' (q0z p):=by
 unfold storeAt at hs⊢
 split at hs
 case h_2=>cases hs
 rename_i ti vs r o h1 h2
 have hgr:=hg r (Y2d.2 rfl)
 simp only[hgr]
 split at hs
 case h_2=>cases hs
 rename_i e cs hc
 obtain⟨hb,rfl⟩:=q0i hs
 simp only[hb,Y0V]
 exact⟨_,rfl,Y2c hnx hg (Y2d.2 rfl) _⟩
theorem alloc_loc{t:TypeId}{v:AV}(ha:alloc C t h=some (v,h'))(hnx:g.nx=h.nx):∃g',alloc C t g=some (v,g')∧Loc2 h h' g g' []:=by
 unfold alloc at ha⊢
 split at ha
 ·rename_i ti ht
  obtain⟨hb,he⟩:=q0i ha
  cases he
  simp only[hb,Y0V,hnx]
  exact⟨_,rfl,Y2b hnx (fun r hr=>by cases hr) _⟩
 ·cases ha
theorem box_loc{t:TypeId}{x v:AV}(ha:box t x h=some (v,h'))(hnx:g.nx=h.nx):∃g',box t x g=some (v,g')∧Loc2 h h' g g' []:=by
 unfold box at ha⊢
 split at ha
 ·cases ha
  simp only[hnx]
  exact⟨_,rfl,Y2b hnx (fun r hr=>by cases hr) _⟩
 ·cases ha
theorem z8c{t:TypeId}{n:Nat}{ps:List (Nat×AV)}{v:AV}(ha:buildSlice C t n ps h=some (v,h'))(hnx:g.nx=h.nx):∃g',buildSlice C t n ps g=some (v,g')∧Loc2 h h' g g' []:=by
  unfold buildSlice at ha⊢
  split at ha
  case h_2=>cases ha
  split at ha
  case h_2=>cases ha
  rename_i x hx
  cases hc:(x.zeroOk&&Nat.ble (Nat.mul n x.size) 1000000)with
  |false=>rw[hc]at ha;cases ha
  | true=>
    rw[hc]at ha
    simp only[Y0V]at ha
    split at ha
    · rename_i l hl
      cases ha
      refine⟨_,?_,Y2b hnx (fun r hr=>by cases hr) _⟩
      simp only[Y0V,hnx]
    ·cases ha
theorem z9R{t:TypeId}{l c v:AV}(ha:makeSlice C t l c h=some (v,h'))(hnx:g.nx=h.nx):∃g',makeSlice C t l c g=some (v,g')∧Loc2 h h' g g' []:=by
 unfold makeSlice at ha⊢
 split at ha
 case h_2=>cases ha
 rename_i h0
 split at ha
 case h_2=>cases ha
 rename_i x l' c' h1 h2 h3
 obtain⟨hb,he⟩:=q0i ha
 cases he
 simp only[hb,Y0V,hnx]
 exact⟨_,rfl,Y2b hnx (fun r hr=>by cases hr) _⟩
theorem x3o{t:TypeId}{x:AV}{lo hi mx:Option AV}(hg:∀r∈q0z x,g.get r=h.get r):q2t C t x lo hi mx g=q2t C t x lo hi mx h:=by
  unfold q2t
  cases C.ti t with
  |none=>rfl
  | some ti=>
    obtain⟨d,_,_,_,_,_,_,_⟩:=ti
    cases d<;>cases x<;>first|rfl|(simp only[hg _ (Y2d.2 rfl)])
theorem q9C{t:TypeId}{x k:AV}{ok:Bool}(hg:∀r∈q0z x,g.get r=h.get r):q3b C t x k ok g=q3b C t x k ok h:=by
 have e:z8U x g=z8U x h:=by
  unfold z8U
  cases x<;>first|rfl|(simp only[hg _ (Y2d.2 rfl)])
 unfold q3b
 rw[e]
theorem x6A{t:TypeId}{x:AV}(hg:∀r∈q0z x,g.get r=h.get r):q2S C t x g=q2S C t x h:=by
  unfold q2S
  cases C.ti t with
  |none=>rfl
  | some ti=>
    obtain⟨d,_,_,_,_,_,_,_⟩:=ti
    cases d<;>cases x<;>first|rfl|(simp only[hg _ (Y2d.2 rfl)])
theorem z8F{t:TypeId}{x k v:AV}(ha:q9Y C t x k v h=some h')(hnx:g.nx=h.nx)(hg:∀r∈q0z x,g.get r=h.get r):∃g',q9Y C t x k v g=some g'∧Loc2 h h' g g' (q0z x):=by
 unfold q9Y at ha⊢
 split at ha
 case h_2=>cases ha
 rename_i r h1
 have hgr:g.get r=h.get r:=hg r (Y2d.2 rfl)
 rw[←hgr]at ha
 split at ha
 case h_2=>cases ha
 rename_i kd es clock h2 h3
 obtain⟨ho,ha⟩:=q2p ha
 simp only[ho,Y0V]
 split at ha
 ·cases ha;exact⟨_,by trivial,Y2c hnx hg (Y2d.2 rfl) _⟩
 ·cases ha;exact⟨_,by trivial,Y2c hnx hg (Y2d.2 rfl) _⟩
 ·cases ha
theorem x6u{t:TypeId}{x k:AV}(ha:z5l C t x k h=some h')(hnx:g.nx=h.nx)(hg:∀r∈q0z x,g.get r=h.get r):∃g',z5l C t x k g=some g'∧Loc2 h h' g g' (q0z x):=by
 unfold z5l at ha;cases ha
theorem z5r{es k:Nat}{x:AV}(hg:∀r∈q0z x,g.get r=h.get r):q0N g es k x=q0N h es k x:=by
 unfold q0N
 cases x<;>first|rfl|(simp only[hg _ (Y2d.2 rfl)])
theorem copyA_loc{dt:TypeId}{d x v:AV}(ha:q7E C dt d x h=some (v,h'))(hnx:g.nx=h.nx)(hd:∀r∈q0z d,g.get r=h.get r)(hx:∀r∈q0z x,g.get r=h.get r):∃g',q7E C dt d x g=some (v,g')∧Loc2 h h' g g' (q0z d):=by
 unfold q7E at ha⊢
 split at ha
 case h_2=>cases ha
 rename_i h1 h2 h3
 dsimp only
 split at ha
 ·cases ha
 rename_i y hy
 dsimp only at ha
 rw[z5r hx]
 split at ha
 ·rename_i h4
  obtain⟨hb,he⟩:=q0i ha
  cases he
  simp only[hb,Y0V]
  exact⟨_,rfl,Y2a hnx hd⟩
 ·rename_i h4
  split at ha
  case h_2=>cases ha
  rename_i e' cs hc
  obtain⟨hb,he⟩:=q0i ha
  cases he
  simp only[hd _ (Y2d.2 rfl),hc,hb,Y0V]
  exact⟨_,rfl,Y2c hnx hd (Y2d.2 rfl) _⟩
 ·cases ha
theorem convB_loc{a b:TypeId}{x:AV}(hg:∀r∈q0z x,g.get r=h.get r):x2P C a b x g=x2P C a b x h:=rfl
theorem x6l{t:TypeId}{x v:AV}(ha:z5j C t x h=some (v,h'))(hnx:g.nx=h.nx)(hg:∀r∈q0z x,g.get r=h.get r):∃g',z5j C t x g=some (v,g')∧Loc2 h h' g g' []:=by
 unfold z5j at ha;cases ha
theorem nextA_loc{x v:AV}(ha:x0x x h=some (v,h'))(hnx:g.nx=h.nx)(hg:∀r∈q0z x,g.get r=h.get r):∃g',x0x x g=some (v,g')∧Loc2 h h' g g' (q0z x):=by
 unfold x0x at ha;cases ha
theorem z9P{t:TypeId}{x k v:AV}(ha:q6R C t x k h=some (v,h'))(hnx:g.nx=h.nx)(hg:∀r∈q0z x,g.get r=h.get r):∃g',q6R C t x k g=some (v,g')∧Loc2 h h' g g' (q0z x):=by
 unfold q6R at ha;cases ha
theorem z7F{x st v:AV}(ha:q4e x st v h=some h')(hnx:g.nx=h.nx)(hg:∀r∈q0z x,g.get r=h.get r):∃g',q4e x st v g=some g'∧Loc2 h h' g g' (q0z x):=by
 unfold q4e at ha;cases ha
end
end Go.Ax
