import Derived.Test.YtdfjkochhifpmaaGreatDoorV02
import Derived.RangeFuncIn
import Derived.OrdersIn
import Derived.Laws.BytesArg
import Derived.Lib.UnsafeStr
import Derived.RangeFuncLeaves
set_option linter.unusedSimpArgs false
set_option linter.unusedVariables false
namespace Go.Ax
section
variable{P:Program}{F:Nat→Option Obj}{m:Loc}{gl:Nat→AV}{eqT:Knob}
theorem q2p{α:Type}{c:Bool}{a:Option α}{x:α}(h:(bif c then a else none)=some x):c=true∧a=some x:=by cases c<;>first|exact⟨rfl,h⟩|cases h
def x4Z:Obj→Bool
 | .cells .. =>false
 |_=>true
theorem q5u{w:World}{r:Nat}{o:Obj}(h:w.heap[r]? =some o)(hc:x4Z o=true):(getObj r).run P w= .ok o w:=by
 cases o with
 |cells _ _ _=>cases hc
 |_=>simp[getObj,Sem.run,h]
theorem q7N{w:World}{r:Nat}{o:Obj}(h:w.heap[r]? =some o)(hc:x4Z o=true)(o':Obj):(setObj r o').run P w= .ok () {w with heap:=w.heap.setIfInBounds r o'}:=by
 cases o with
 |cells _ _ _=>cases hc
 |_=>simp[setObj,Sem.run,h]
theorem Step.obj{h:Hp}{w:World}(hr:HRel P F m h w){r:Nat}{q:AObj}{b z:Nat}(hg:h.get r=some q)(hq:q.live=true)(hm:m r=some (b,z)){o:AObj}{ob:Obj}(ho:ORel P F m z o (some ob)):
  Step P F m h (h.put r o) w {w with heap:=w.heap.setIfInBounds b ob} m:=by
 have hlt:=hr.lt hg hq hm
 refine Step.put hr hg hq hm (by simp[hlt]) (fun c hc=> ?_) (by simp) ⟨rfl,rfl,rfl⟩ ho
 simp[Y1G (Ne.symm hc)]
theorem q8O{α:Type}{f:α→PUnit→Sem (ForInStep PUnit)}{w:World}:∀(l:List α),(∀x∈l,(f x ⟨⟩).run P w= .ok (.yield ⟨⟩) w)→(forIn l PUnit.unit f:Sem PUnit).run P w= .ok ⟨⟩ w
  |[],_=>by simp
  | x::l,h=>by
    simp only[List.forIn_cons,Sem.run_bind,h x Y0T,Result.andThen_ok]
    exact q8O l fun y hy=>h y (Y0U _ hy)
theorem z0c{kt:TypeId}{k:IntKind}(hu:P.underlying kt=some (.int k))(e:Bool)(v:Value)(n:Nat)(w:World):(Instr.checkKey e (n+1) kt v).run P w= .ok () w:=by
 simp[Instr.checkKey,run_underlying hu]
theorem z4R{d:TypeDesc}(h:z8t d=true):∃k,d= .int k:=by cases d<;>first|exact⟨_,rfl⟩|cases h
theorem z5A{kt:TypeId}{k:AV}{ck:Value}(hk:VRel P F m k ck)(ho:z8V (Ctx.of P gl eqT) kt k=true)(e:Bool)(w:World):(Instr.checkKey e 10000 kt ck).run P w= .ok () w:=by
 unfold z8V at ho
 split at ho
 ·rename_i ti kd n ht
  obtain⟨j,hj⟩:=z4R ho
  have hu:=q0A ht
  rw[hj]at hu
  exact z0c hu e ck 9999 w
 ·rename_i ti l ht
  have hu:=q0A ht
  obtain⟨arr,rfl,ha⟩:=Y0q hk
  obtain⟨_,ho⟩:=q0p ho
  have one:∀(t:TypeId) (o:Nat→Nat),z9c (Ctx.of P gl eqT) l t o=true→∃y,(Ctx.of P gl eqT).ti t=some y∧∃cv,(part t arr (o y.size)).run P w= .ok cv w∧(Instr.checkKey e 9999 t cv).run P w= .ok () w:=fun t o hp=>by
   unfold z9c at hp
   split at hp
   case h_2=>cases hp
   rename_i y hy
   obtain⟨h1,h2⟩:=q0p hp
   obtain⟨x,hx⟩:=Y0W.1 h2
   obtain⟨cv,hr,_⟩:=q9x (w:=w) hy hx ha
   obtain⟨j,hj⟩:=z4R h1
   have hu:=q0A hy
   rw[hj]at hu
   exact⟨y,hy,cv,hr,z0c hu e cv 9998 w⟩
  show(Instr.checkKey e (9999+1) kt (.agg arr)).run P w= .ok () w
  split at ho
  ·rename_i n et hd
   rw[hd]at hu
   rw[Instr.checkKey]
   simp only[Sem.run_bind,run_underlying hu,Result.andThen_ok,Std.Legacy.Range.forIn_eq_forIn_range',Std.Legacy.Range.size]
   rw[q8O _ fun i hi=> ?_]
   ·rfl
   have hi':i∈List.range' 0 n:=by simpa using hi
   obtain⟨y,hy,cv,h1,h2⟩:=one et (fun s=>i*s) (Y0G.1 ho i hi')
   simp only[Sem.run_bind,q0O hy,Result.andThen_ok,h1,h2,Sem.run_pure]
  ·rename_i fs hd
   rw[hd]at hu
   rw[Instr.checkKey]
   simp only[Sem.run_bind,run_underlying hu,Result.andThen_ok]
   rw[←Array.forIn_toList]
   rw[q8O _ fun f hf=> ?_]
   ·rfl
   obtain⟨y,hy,cv,h1,h2⟩:=one f.type (fun _=>f.offset) (Y0G.1 ho f hf)
   by_cases hn:f.name= "_"
   ·simp[hn]
   ·simp[hn,Sem.run_bind,Result.andThen_ok,h1,h2]
  ·cases ho
 ·cases ho
theorem x1t{C:Ctx}{kt:TypeId}{kk:IntKind}{k:AV}{ck:Value}(hki:∃kd a,k= .int kd a)(hk:VRel P F m k ck):∀(es:List (AV×AV×Nat)) (ces:List MapEntry) (i:Nat) (r:Option (Nat×AV×Nat)),z5H C kt k es i=some r→es.length=ces.length→
    (∀(i:Nat) (x:AV×AV×Nat) (y:MapEntry),es[i]? =some x→ces[i]? =some y→ERel P F m x y)→
    match r with
    |none=>Instr.findNow (.int kk) ck ces i=some none
    |some (j,v,b)=>i≤j∧∃e,ces[j-i]? =some e∧Instr.findNow (.int kk) ck ces i=some (some (j,e.val))∧VRel P F m v e.val∧b=e.born∧∃kd a,e.key= .int kd a∧ck= .int kd a
  | [],ces,i,r,h,hl,hc=>by
    cases ces with
    |nil=>cases h;rfl
    |cons _ _=>cases hl
  | (q, v,b)::es,ces,i,r,h,hl,hc=>by
    cases ces with
    |nil=>cases hl
    | cons e ces=>
      have he:=hc 0 _ _ rfl rfl
      unfold z5H at h
      have hke:∃kd a kd' b',k= .int kd a∧q= .int kd' b':=by
        unfold x2M at h
        split at h
        · rename_i hq
          split at hq
          ·exact⟨_,_,_,_,rfl,rfl⟩
          ·obtain⟨_,_,hki⟩:=hki;cases hki
          ·cases hq
        · rename_i hq
          split at hq
          ·exact⟨_,_,_,_,rfl,rfl⟩
          ·obtain⟨_,_,hki⟩:=hki;cases hki
          ·cases hq
        ·cases h
      obtain⟨kd,a,kd',b',rfl,rfl⟩:=hke
      obtain rfl:=hk.int_inv
      have hek:=he.key.int_inv
      have hs:x2M C kt (.int kd a) (.int kd' b')=Instr.sameNow (.int kk) (.int kd a) e.key:=by
        rw[hek]
        simp only[x2M,Instr.sameNow]
        cases hkk:q2s kd kd' with
        |true=>obtain rfl:=q5w hkk;simp[q7R]
        | false=>
          have:kd≠kd':=fun e=>by subst e;cases kd<;>cases hkk
          simp[this]
      rw[hs]at h
      split at h
      · rename_i ht
        cases h
        refine⟨Y0u _,e,by simp,by simp[Instr.findNow,ht],he.val,he.born,kd',b',hek,?_⟩
        rw[hek]at ht
        simp only[Instr.sameNow]at ht
        split at ht
        ·rename_i hkk;subst hkk;simp at ht;rw[ht]
        ·cases ht
      · rename_i hf
        have ih:=x1t (kk:=kk) hki hk es ces (i+1) r h (by simpa using hl) (fun j x y hx hy=>hc (j+1) x y (by simpa using hx) (by simpa using hy))
        cases r with
        |none=>simp only[Instr.findNow,hf];exact ih
        | some t=>
          obtain⟨j,v',b''⟩:=t
          obtain⟨h1,e',h2,h3,h4⟩:=ih
          refine⟨by omega,e',?_,by simp only[Instr.findNow,hf];exact h3,h4⟩
          have:j-i=(j-(i+1))+1:=by omega
          rw[this];simpa using h2
      ·cases h
theorem x1m{n:Nat}:∀{a b:List AV} {xs ys:List Value},q8u a b=true→LRel P F m a xs→LRel P F m b ys→xs=ys∧(xs.zip xs).all (fun x=>Instr.sameBits n x.1 x.2)=true
  |[],[],xs,ys,_,ha,hb=>by cases ha.cases_nil;cases hb.cases_nil;exact⟨rfl,rfl⟩
  | x ::l,y::k,xs,ys,h,ha,hb=>by
    obtain⟨u,xs',rfl,h1,h2⟩:=ha.cases_cons
    obtain⟨v,ys',rfl,h3,h4⟩:=hb.cases_cons
    unfold q8u at h
    split at h
    ·rename_i e1 e2;cases e1
    · rename_i kk p l' j q k' e1 e2
      cases e1;cases e2
      obtain⟨g1,g2⟩:=q0p h
      obtain⟨g2,g3⟩:=q0p g2
      obtain rfl:=q5w g1
      rw[q7R]at g2
      have g2:p=q:=by simpa using g2
      subst g2
      obtain rfl:=h1.int_inv
      obtain rfl:=h3.int_inv
      obtain⟨e,f⟩:=x1m (n:=n) g3 h2 h4
      subst e
      refine⟨rfl,?_⟩
      rw[List.zip_cons_cons,List.all_cons,f]
      simp[Instr.sameBits]
    ·cases h
  |[],_::_,_,_,h,_,_=>by simp[q8u]at h
  |_::_,[],_,_,h,_,_=>by simp[q8u]at h
theorem z7m (hE:EqOk P eqT) {kt:TypeId} {l:List AV} {arr:Array Value} (hk:LRel P F m l arr.toList) (w:World):∀(es:List (AV×AV×Nat)) (ces:List MapEntry) (i:Nat) (r:Option (Nat×AV×Nat)),z5H (Ctx.of P gl eqT) kt (.agg l) es i=some r→es.length=ces.length→
    (∀(i:Nat) (x:AV×AV×Nat) (y:MapEntry),es[i]? =some x→ces[i]? =some y→ERel P F m x y)→
    match r with
    |none=>(Instr.findAsking kt (.agg arr) ces i).run P w= .ok none w
    |some (j,v,b)=>i≤j∧∃e,ces[j-i]? =some e∧(Instr.findAsking kt (.agg arr) ces i).run P w= .ok (some (j,e.val)) w∧VRel P F m v e.val∧b=e.born∧(Instr.keyThatStays e.key (.agg arr)).run P w= .ok (.agg arr) w
  | [],ces,i,r,h,hl,hc=>by
    cases ces with
    |nil=>cases h;simp[Instr.findAsking]
    |cons _ _=>cases hl
  | (q, v, b) ::es,ces,i,r,h,hl,hc=>by
    cases ces with
    |nil=>cases hl
    | cons e ces=>
      have he:=hc 0 _ _ rfl rfl
      unfold z5H at h
      have hq :∃k,q= .agg k∧∃u,eqA (Ctx.of P gl eqT) 100 kt (.agg l) (.agg k)=some u∧x2M (Ctx.of P gl eqT) kt (.agg l) q=some u∧(u=true→q8u l k=true):=by
        cases q with
        | agg k=>
          refine⟨k,rfl,?_⟩
          simp only[x2M]at h⊢
          cases hu:eqA (Ctx.of P gl eqT) 100 kt (.agg l) (.agg k)with
          |none=>rw[hu]at h;cases h
          | some u=>
            cases u with
            |false=>exact⟨false,rfl,rfl,fun h=>by cases h⟩
            | true=>
              cases hs:q8u l k with
              |true=>exact⟨true,rfl,rfl,fun _=>rfl⟩
              |false=>rw[hu,hs]at h;cases h
        |_=>cases h
      obtain⟨k,rfl,u,hu,hke,hs⟩:=hq
      rw[hke]at h
      obtain⟨brr,hb1,hb2⟩:=Y0q he.key
      have hrun:=z9h hE w 100 kt _ _ u hu _ _ (Y0o hk) he.key Op.maxDepth (by decide)
      cases u with
      | true=>
        cases h
        refine⟨Y0u _,e,by simp,?_,he.val,he.born,?_⟩
        ·simp only[Instr.findAsking,Op.equal,Sem.run_bind,hrun,Result.andThen_ok,Y1n,Sem.run_pure]
        · obtain⟨g1,g2⟩:=x1m (n:=9999) (hs rfl) hk hb2
          have g1:arr=brr:=Array.toList_inj.1 g1
          subst g1
          rw[hb1]
          have:Instr.sameBits 10000 (.agg arr) (.agg arr)=true:=by
            show(arr.size==arr.size&&(arr.toList.zip arr.toList).all fun x=>Instr.sameBits 9999 x.1 x.2)=true
            rw[g2];simp
          simp[Instr.keyThatStays,this]
      | false=>
        have ih:=z7m hE hk w es ces (i+1) r h (by simpa using hl) (fun j x y hx hy=>hc (j+1) x y (by simpa using hx) (by simpa using hy))
        have hstep:(Instr.findAsking kt (.agg arr) (e::ces) i).run P w=(Instr.findAsking kt (.agg arr) ces (i+1)).run P w:=by
          simp only[Instr.findAsking,Op.equal,Sem.run_bind,hrun,Result.andThen_ok,Y1l,Y1m]
        cases r with
        |none=>rw[hstep];exact ih
        | some t=>
          obtain⟨j,v',b''⟩:=t
          obtain⟨h1,e',h2,h3,h4⟩:=ih
          refine⟨by omega,e',?_,by rw[hstep];exact h3,h4⟩
          have:j-i=(j-(i+1))+1:=by omega
          rw[this];simpa using h2
theorem q9E(hE:EqOk P eqT){kt:TypeId}{k:AV}{ck:Value}(hk:VRel P F m k ck)(ho:z8V (Ctx.of P gl eqT) kt k=true){es:List (AV×AV×Nat)}{ces:List MapEntry}{r:Option (Nat×AV×Nat)}(hf:z5H (Ctx.of P gl eqT) kt k es 0=some r)(hl:es.length=ces.length)
    (hc:∀(i:Nat) (x:AV×AV×Nat) (y:MapEntry),es[i]? =some x→ces[i]? =some y→ERel P F m x y) (w:World):
    match r with
    |none=>(Instr.findKey kt ck ces).run P w= .ok none w
    |some (j,v,b)=>∃e,ces[j]? =some e∧(Instr.findKey kt ck ces).run P w= .ok (some (j,e.val)) w∧VRel P F m v e.val∧b=e.born∧(Instr.keyThatStays e.key ck).run P w= .ok ck w:=by
  unfold z8V at ho
  split at ho
  · rename_i ti kd n ht
    obtain⟨kk,hj⟩:=z4R ho
    have hu:=q0A ht
    rw[hj]at hu
    have g:=x1t (kk:=kk) ⟨_,_,rfl⟩ hk es ces 0 r hf hl hc
    cases r with
    |none=>simp only[Instr.findKey,Sem.run_bind,run_underlying hu,Result.andThen_ok];rw[g];rfl
    | some t=>
      obtain⟨j,v,b⟩:=t
      obtain⟨_,e,g2,g3,g4,g5,kd',a',g6,g7⟩:=g
      rw[Y1H]at g2
      refine⟨e,g2,?_,g4,g5,by simp[g6,g7,Instr.keyThatStays,Instr.sameBits]⟩
      simp only[Instr.findKey,Sem.run_bind,run_underlying hu,Result.andThen_ok];rw[g3];rfl
  · rename_i ti l ht
    obtain⟨arr,rfl,ha⟩:=Y0q hk
    have hu:=q0A ht
    have hnow:es≠ []→Instr.findNow ti.desc (.agg arr) ces 0=none:=fun hne=>by
      cases ces with
      | nil=>cases es with
        |nil=>exact absurd rfl hne
        |cons _ _=>cases hl
      | cons e ces=>
        have:Instr.sameNow ti.desc (.agg arr) e.key=none:=by unfold Instr.sameNow;split<;>first|rfl|simp_all
        simp[Instr.findNow,this]
    cases es with
    | nil=>
      cases ces with
      |cons _ _=>cases hl
      | nil=>
        cases hf
        simp[Instr.findKey,run_underlying hu,Instr.findNow]
    | cons x es=>
      have g:=z7m hE ha w (x::es) ces 0 r hf hl hc
      have hst:(Instr.findKey kt (.agg arr) ces).run P w=(Instr.findAsking kt (.agg arr) ces 0).run P w:=by
        simp only[Instr.findKey,Sem.run_bind,run_underlying hu,Result.andThen_ok]
        rw[hnow (by simp)]
      cases r with
      |none=>rw[hst];exact g
      | some t=>
        obtain⟨j,v,b⟩:=t
        obtain⟨_,e,g2,g3,g4⟩:=g
        rw[Y1H]at g2
        exact⟨e,g2,by rw[hst];exact g3,g4⟩
  ·cases ho
theorem z3R{t kt e:TypeId}(hu:P.underlying t=some (.map kt e)){cx ck:Value}{ces:Array MapEntry}{w:World}{ok:Bool}{r:Option (Nat×Value)}(hck:∀b,(Instr.checkKey b 10000 kt ck).run P w= .ok () w)
  (hc:(cx= .map none∧ces= #[])∨∃b clock,cx= .map (some b)∧w.heap[b]? =some (.map ces clock)) (hf:(Instr.findKey kt ck ces.toList).run P w= .ok r w) {zv:Value} (hz:r=none→(zeroValue e).run P w= .ok zv w):
  (Instr.lookup t cx ck ok).run P w= .ok (match r with|some (_,v)=>if ok then .tuple #[v,.bool true]else v|none=>if ok then .tuple #[zv,.bool false]else zv) w:=by
 rcases hc with⟨rfl,rfl⟩|⟨b,clock,rfl,hb⟩
 ·cases r with
  |some x=>simp[Instr.lookup,run_underlying hu,hck,hf]
  |none=>simp[Instr.lookup,run_underlying hu,hck,hf,hz rfl]
 ·cases r with
  |some x=>simp[Instr.lookup,run_underlying hu,q5u hb rfl,hck,hf]
  |none=>simp[Instr.lookup,run_underlying hu,q5u hb rfl,hck,hf,hz rfl]
theorem x3C(hE:EqOk P eqT){t:TypeId}{x k v:AV}{cx ck:Value}{ok:Bool}{h:Hp}{w:World}(hl:q3b (Ctx.of P gl eqT) t x k ok h=some v)(hx:VRel P F m x cx)(hk:VRel P F m k ck)(hr:HRel P F m h w):
  ∃cv,(Instr.lookup t cx ck ok).run P w= .ok cv w∧VRel P F m v cv:=by
 unfold q3b at hl
 split at hl
 case h_2=>cases hl
 rename_i kt e size isAgg zero zeroOk bytes comparable zv ht
 have hu:=q0A ht
 dsimp only at hu
 split at hl
 case h_2=>cases hl
 rename_i kd y hkd hy
 split at hl
 case h_2=>cases hl
 rename_i es hes
 obtain⟨ho,hl⟩:=q2p hl
 have hck:=fun b=>z5A hk ho b w
 have hces:∃ces:Array MapEntry,((cx= .map none∧ces= #[])∨∃b clock,cx= .map (some b)∧w.heap[b]? =some (.map ces clock))∧es.length=ces.toList.length∧∀(i:Nat) (x:AV×AV×Nat) (y:MapEntry),es[i]? =some x→ces.toList[i]? =some y→ERel P F m x y:=by
  unfold z8U at hes
  split at hes
  ·cases hes
   obtain rfl:=hx.nilmap_inv
   exact⟨#[],.inl ⟨rfl,rfl⟩,rfl,fun i x y h=>by simp at h⟩
  ·rename_i r
   split at hes
   case h_2=>cases hes
   rename_i es' clock hg
   cases hes
   obtain⟨b,z,hm,rfl⟩:=hx.map_inv
   obtain⟨ces,h1,h2,h3⟩:=hr.obj r _ b z hg hm
   exact⟨ces,.inr ⟨b,clock,rfl,h1⟩,by simpa using h2,fun i x y hx hy=>h3 i x y hx (by simpa using hy)⟩
  ·cases hes
 obtain⟨ces,hc1,hc2,hc3⟩:=hces
 split at hl
 ·rename_i j b hf
  obtain⟨e',h2,h3,h4,_⟩:=q9E hE hk ho hf hc2 hc3 w
  cases hl
  refine⟨_,z3R (zv:=.nilFunc) hu hck hc1 h3 (fun h=>by cases h),?_⟩
  cases ok with
  |true=>exact Y0p (.cons h4 (.cons (.bool true) .nil))
  |false=>exact h4
 ·rename_i hf
  have h3:=q9E hE hk ho hf hc2 hc3 w
  dsimp only at h3
  obtain⟨hz,he⟩:=q0i hl
  cases he
  obtain⟨zv,hzr,hzl⟩:=x0N (P:=P) (F:=F) (m:=m) hy hz w
  refine⟨_,z3R hu hck hc1 h3 (fun _=>hzr),?_⟩
  cases ok with
  |true=>exact Y0p (.cons hzl (.cons (.bool false) .nil))
  |false=>exact hzl
 ·cases hl
theorem z8E(hE:EqOk P eqT){t:TypeId}{x k v:AV}{cx ck cv:Value}{h h':Hp}{w:World}(hp:q9Y (Ctx.of P gl eqT) t x k v h=some h')(hx:VRel P F m x cx)(hk:VRel P F m k ck)(hv:VRel P F m v cv)(hr:HRel P F m h w):
  ∃w',(Instr.mapUpdate t cx ck cv).run P w= .ok () w'∧Step P F m h h' w w' m:=by
 unfold q9Y at hp
 split at hp
 case h_2=>cases hp
 rename_i kt e size isAgg zero zeroOk bytes comparable zv r ht
 have hu:=q0A ht
 dsimp only at hu
 split at hp
 case h_2=>cases hp
 rename_i kd es clock hkd hg
 obtain⟨ho,hp⟩:=q2p hp
 have hck:=fun b=>z5A hk ho b w
 obtain⟨b,z,hm,rfl⟩:=hx.map_inv
 obtain⟨ces,h1,h2,h3⟩:=hr.obj r _ b z hg hm
 have h2':es.length=ces.toList.length:=by simpa using h2
 have h3':∀(i:Nat) (x:AV×AV×Nat) (y:MapEntry),es[i]? =some x→ces.toList[i]? =some y→ERel P F m x y:=fun i x y hx hy=>h3 i x y hx (by simpa using hy)
 split at hp
 ·rename_i j v0 b0 hf
  obtain⟨e',g2,g3,g4,g5,g6⟩:=q9E hE hk ho hf h2' h3' w
  cases hp
  have g2':ces[j]? =some e':=by simpa using g2
  have hkeep:(Instr.keyThatStays (((ces[j]?).map (·.key)).getD ck) ck).run P w= .ok ck w:=by
   rw[g2'];exact g6
  refine⟨_,?_,Step.obj hr hg rfl hm (ob:=.map (ces.modify j fun e=>{e with key:=ck,val:=cv}) clock) ⟨_,rfl,by simp[setAt,h2],fun i x y hx hy=> ?_⟩⟩
  ·simp only[Instr.mapUpdate,Sem.run_bind,run_underlying hu,Result.andThen_ok,q5u h1 rfl,hck,g3]
   rw[hkeep]
   simp only[Result.andThen_ok,q7N h1 rfl]
  ·unfold setAt at hx
   rw[Y1I]at hx
   rw[Y1J]at hy
   by_cases hij:j=i
   ·subst hij
    have hlt:j<es.length:=by rw[h2'];exact(Y0m.1 g2).1
    rw[Y0e rfl,Y0e hlt]at hx
    rw[Y0e rfl,g2']at hy
    cases hx;cases hy
    exact⟨hk,hv,g5⟩
   ·rw[Y0c hij]at hx
    rw[Y0c hij]at hy
    exact h3 i x y hx hy
 ·rename_i hf
  have g3:=q9E hE hk ho hf h2' h3' w
  dsimp only at g3
  cases hp
  refine⟨_,?_,Step.obj hr hg rfl hm (ob:=.map (ces.push {key:=ck,val:=cv,born:=clock}) (clock+1)) ⟨_,rfl,by simp[h2],fun i x y hx hy=> ?_⟩⟩
  ·simp only[Instr.mapUpdate,Sem.run_bind,run_underlying hu,Result.andThen_ok,q5u h1 rfl,hck,g3,q7N h1 rfl]
  ·by_cases hi:i<es.length
   ·rw[Y0i hi]at hx
    rw[Y0z,Y0c (by omega)]at hy
    exact h3 i x y hx hy
   ·rw[Y0j (by omega)]at hx
    have hi':i=es.length:=by
     have:=(Y0m.1 hx).1
     simp at this;omega
    rw[Y0z,Y0e (by omega)]at hy
    subst hi'
    simp at hx
    cases hy;subst hx
    exact⟨hk,hv,rfl⟩
 ·cases hp
theorem x6t(hE:EqOk P eqT){t rt:TypeId}{ts:Array TypeId}{x k:AV}{cx ck:Value}{h h':Hp}{w:World}(hp:z5l (Ctx.of P gl eqT) t x k h=some h')(hts:ts[0]? =some t)(hx:VRel P F m x cx)(hk:VRel P F m k ck)(hr:HRel P F m h w):
  ∃w',(Builtin.delete_ ts rt #[cx,ck]).run P w= .ok (.tuple #[]) w'∧Step P F m h h' w w' m:=by
 unfold z5l at hp;cases hp
theorem x6B(p:String→Bool)(g:String→String){missing:List String}(hne:missing≠ []):∃s,(Instr.least (missing.partition p).2<|>Instr.least ((missing.partition p).1.map g))=some s:=by
  rw[List.partition_eq_filter_filter]
  dsimp only
  generalize hE:List.filter (not∘p) missing=E
  generalize hU:List.filter p missing=U
  have key:E≠ []∨U≠ []:=by
    subst hE hU
    cases missing with
    |nil=>exact absurd rfl hne
    | cons x l=>
      cases hc:p x with
      |true=>exact .inr (by rw[List.filter_cons,hc];exact nofun)
      |false=>exact .inl (by rw[List.filter_cons,show(not∘p) x=true from Y1K not hc];exact nofun)
  cases E with
  |cons x l=>exact⟨_,rfl⟩
  | nil=>
    cases U with
    |nil=>rcases key with h|h<;>exact absurd rfl h
    |cons x l=>exact⟨_,rfl⟩
theorem x1O{want:Array (String×TypeId)}{got:Array Method}(h:z1B want got=true):Instr.missingMethod want got=none:=by
 unfold z1B at h
 have:(want.toList.filter fun x=> !got.any fun m=>m.name==x.1&&m.sig==x.2)= []:=by
  rw[List.filter_eq_nil_iff]
  intro x hx
  have:=Y0G.1 h x hx
  simp only[this]
  decide
 unfold Instr.missingMethod
 simp only[this]
 rfl
theorem x1N{want:Array (String×TypeId)}{got:Array Method}(h:z1B want got=false):∃s,Instr.missingMethod want got=some s:=by
 unfold z1B at h
 have hne:((want.toList.filter fun x=> !got.any fun m=>m.name==x.1&&m.sig==x.2).map (·.1))≠ []:=fun e=>by
  have e:=List.map_eq_nil_iff.1 e
  rw[List.filter_eq_nil_iff]at e
  have:(want.toList.all fun x=>got.any fun m=>m.name==x.1&&m.sig==x.2)=true:=by
   rw[Y0G]
   intro x hx
   have:=e x hx
   simpa using this
  rw[this]at h;cases h
 unfold Instr.missingMethod
 generalize hm:((want.toList.filter fun x=> !got.any fun m=>m.name==x.1&&m.sig==x.2).map (·.1))=missing at hne
 have hm':(List.map (fun x:String×TypeId=>x.1) (List.filter (fun x=>match x with|(name,sig)=> !got.any fun m=>m.name==name&&m.sig==sig) want.toList))=missing:=hm
 dsimp only
 exact x6B _ _ hne
theorem z7B{x v:AV}{cx:Value}{xt t:TypeId}{ok:Bool}{w:World}(h:q4c P (Ctx.of P gl eqT) x t ok=some v)(hx:VRel P F m x cx):∃cv,(Instr.typeAssert cx xt t ok).run P w= .ok cv w∧VRel P F m v cv:=by
  unfold q4c at h
  split at h
  ·cases h
  rename_i ti ht
  have hu:=q0A ht
  have hyes:∀{y:AV} {cy:Value} {v:AV},VRel P F m y cy→some (bif ok then AV.tup [y,.bool true]else y)=some v→VRel P F m v (if ok then .tuple #[cy,.bool true]else cy):=by
    intro y cy v hy he
    cases he
    cases ok with
    |true=>exact Y0p (.cons hy (.cons (.bool true) .nil))
    |false=>exact hy
  have hno:∀{v:AV},(bif ok&&ti.zeroOk then some (AV.tup [ti.zv,.bool false])else none)=some v→∃zv,ok=true∧(zeroValue t).run P w= .ok zv w∧VRel P F m v (.tuple #[zv,.bool false]):=by
    intro v he
    obtain⟨hc,rfl⟩:=q0i he
    obtain⟨h1,h2⟩:=q0p hc
    obtain⟨zv,hz1,hz2⟩:=x0N (P:=P) (F:=F) (m:=m) ht h2 w
    exact⟨zv,h1,hz1,Y0p (.cons hz2 (.cons (.bool false) .nil))⟩
  dsimp only at h
  split at h
  · rename_i want u y hd
    rw[hd]at hu
    obtain⟨cy,rfl,hy⟩:=hx.iface_inv
    split at h
    case h_2=>cases h
    rename_i i hi
    cases hat:z1B want i.methods with
    | true=>
      have hmm:=x1O hat
      rw[hat]at h
      exact⟨_,by simp[Instr.typeAssert,run_underlying hu,typeInfo,hi,hmm],hyes (.iface u hy) h⟩
    | false=>
      obtain⟨s,hmm⟩:=x1N hat
      rw[hat]at h
      obtain⟨zv,rfl,hz1,hz2⟩:=hno h
      exact⟨_,by simp[Instr.typeAssert,run_underlying hu,typeInfo,hi,hmm,hz1],hz2⟩
  · obtain rfl:=hx.nilif_inv
    obtain⟨zv,rfl,hz1,hz2⟩:=hno h
    refine⟨_,?_,hz2⟩
    generalize ti.desc=d at hu
    cases d<;>simp[Instr.typeAssert,run_underlying hu,hz1]
  ·cases h
  · rename_i u y hne
    obtain⟨cy,rfl,hy⟩:=hx.iface_inv
    cases hb:Nat.beq u t with
    | true=>
      rw[hb]at h
      obtain rfl:=Y0P hb
      refine⟨_,?_,hyes hy h⟩
      generalize ti.desc=d at hu hne
      cases d<;>first
        |(exact absurd rfl (hne _))
        |simp[Instr.typeAssert,run_underlying hu]
    | false=>
      rw[hb]at h
      have hut:u≠t:=fun e=>by subst e;rw[Y1o]at hb;cases hb
      obtain⟨zv,rfl,hz1,hz2⟩:=hno h
      refine⟨_,?_,hz2⟩
      generalize ti.desc=d at hu hne
      cases d<;>first
        |(exact absurd rfl (hne _))
        |simp[Instr.typeAssert,run_underlying hu,hut,hz1]
  ·cases h
end
end Go.Ax
namespace Go.Ax
structure HpLe(h h':Hp):Prop where
 nx:h.nx≤h'.nx
 lo:h'.lo≤h.lo
 same:∀r,r<h.nx→r<h'.lo→h'.get r=h.get r
 wf:(∀r,h.nx≤r→h.get r=none)→∀r,h'.nx≤r→h'.get r=none
theorem HpLe.refl(h:Hp):HpLe h h:=⟨Y0u _,Y0u _,fun _ _ _=>rfl,fun h=>h⟩
theorem HpLe.trans{a b c:Hp}(h:HpLe a b)(k:HpLe b c):HpLe a c:=
 ⟨Y0C h.nx k.nx,Y0C k.lo h.lo,fun r h1 h2=>(k.same r (Y0D h1 h.nx) h2).trans (h.same r h1 (Y0D h2 k.lo)),fun hw=>k.wf (h.wf hw)⟩
theorem HpLe.new(h:Hp)(o:AObj):HpLe h (h.new o):=
  ⟨Y0A _,Y0u _,fun r h1 _=>by rw[Y0x,Y0c (by omega)],fun hw r hr=>by
    have hr:h.nx+1≤r:=hr
    rw[Y0x,Y0c (by omega)];exact hw r (by omega)⟩
theorem HpLe.put{h:Hp}{r:Nat}{q:AObj}(hg:h.get r=some q)(o:AObj):HpLe h (h.put r o):=by
  refine⟨Y0u _,?_,fun s _ h2=> ?_,fun hw s hs=> ?_⟩
  · show(bif Nat.ble h.lo r then h.lo else r)≤h.lo
    cases hb:Nat.ble h.lo r with
    |true=>exact Y0u _
    | false=>
      simp only[Y1b]
      rcases Y1w r h.lo with h'|h'
      ·omega
      ·have:=Y1x h';rw[this]at hb;cases hb
  · have h2:s<(bif Nat.ble h.lo r then h.lo else r):=h2
    have:s<r:=by
      cases hb:Nat.ble h.lo r with
      |true=>rw[hb]at h2;have:=Y0J hb;simp only[Y0V]at h2;omega
      |false=>rw[hb]at h2;exact h2
    rw[Y0y,Y0c (by omega)]
  · rw[Y0y]
    split
    · rename_i e;subst e
      have:=hw r hs
      rw[hg]at this;cases this
    ·exact hw s hs
abbrev Y1L:=@HpLe.put
section
variable{P:Program}{gl:Nat→AV}{eqT:Knob}{C:Ctx}{h h':Hp}
theorem alloc_le{t:TypeId}{v:AV}(ha:alloc C t h=some (v,h')):HpLe h h':=by
 unfold alloc at ha
 split at ha
 ·obtain⟨_,he⟩:=q0i ha;cases he;exact .new _ _
 ·cases ha
theorem box_le{t:TypeId}{x v:AV}(ha:box t x h=some (v,h')):HpLe h h':=by
 unfold box at ha
 split at ha
 ·cases ha;exact .new _ _
 ·cases ha
theorem x0d{t:TypeId}{n:Nat}{ps:List (Nat×AV)}{v:AV}(ha:buildSlice C t n ps h=some (v,h')):HpLe h h':=by
  unfold buildSlice at ha
  split at ha
  case h_2=>cases ha
  split at ha
  case h_2=>cases ha
  rename_i x _
  cases hc:(x.zeroOk&&Nat.ble (Nat.mul n x.size) 1000000)with
  |false=>rw[hc]at ha;cases ha
  | true=>
    rw[hc]at ha
    simp only[Y0V]at ha
    split at ha
    ·cases ha;exact .new _ _
    ·cases ha
theorem x1S{t:TypeId}{l c v:AV}(ha:makeSlice C t l c h=some (v,h')):HpLe h h':=by
 unfold makeSlice at ha
 split at ha
 case h_2=>cases ha
 split at ha
 case h_2=>cases ha
 obtain⟨_,he⟩:=q0i ha
 cases he;exact .new _ _
theorem x5U{t:TypeId}{p v:AV}(ha:storeAt C t p v h=some h'):HpLe h h':=by
 unfold storeAt at ha
 split at ha
 case h_2=>cases ha
 split at ha
 case h_2=>cases ha
 rename_i hg
 obtain⟨_,he⟩:=q0i ha
 cases he;exact .put hg _
theorem x1a{t:TypeId}{x k v:AV}(ha:q9Y C t x k v h=some h'):HpLe h h':=by
 unfold q9Y at ha
 split at ha
 case h_2=>cases ha
 split at ha
 case h_2=>cases ha
 rename_i hg
 obtain⟨_,ha⟩:=q2p ha
 split at ha
 ·cases ha;exact .put hg _
 ·cases ha;exact .put hg _
 ·cases ha
theorem mapDel_le{t:TypeId}{x k:AV}(ha:z5l C t x k h=some h'):HpLe h h':=by
 unfold z5l at ha;cases ha
theorem x7h {st xt:TypeId}{s x v:AV}(ha:q0Z C st xt s x h=some (v,h')):HpLe h h':=by
  unfold q0Z at ha
  split at ha
  case h_2=>cases ha
  rename_i e size isAgg zero zeroOk bytes comparable zv xi k hst hxt hk
  split at ha
  ·cases ha
  ·cases ha
  rename_i y hy hsrc
  split at ha
  ·cases ha
  rename_i new hnew
  cases hc:(new.all q1f&&(Nat.ble y.bytes 1000000&&Nat.beq new.length (Nat.mul k y.size)))with
  |false=>rw[hc]at ha;cases ha
  |true=>
  rw[hc]at ha
  simp only[Y0V]at ha
  split at ha
  · cases hk:Nat.beq k 0 with
    |true=>rw[hk]at ha;cases ha;exact .refl _
    |false=>rw[hk]at ha;obtain⟨_,he⟩:=q0i ha;cases he;exact .new _ _
  · rename_i r o len cap es ex
    split at ha
    case h_2=>cases ha
    rename_i e' cs hg
    cases hc2:(Nat.beq es y.size&&(Nat.ble (Nat.add o (Nat.mul len es)) cs.length&&Nat.ble (Nat.add len k) 1000000))with
    |false=>rw[hc2]at ha;cases ha
    |true=>
    rw[hc2]at ha
    simp only[Y0V]at ha
    cases hin:Nat.ble (Nat.add len k) cap with
    |true=>rw[hin]at ha;obtain⟨_,he⟩:=q0i ha;cases he;exact .put hg _
    | false =>
      rw[hin]at ha
      simp only[Y1b]at ha
      cases hz:y.zeroOk with
      |false=>rw[hz]at ha;cases ha
      | true=>
        rw[hz]at ha
        simp only[Y1k,Y1b]at ha
        cases ex with
        |true=>simp only[Y0V]at ha;cases ha;exact .new _ _
        | false=>
          simp only[Y1b]at ha
          cases ho:(Nat.beq o 0&&Nat.ble (Nat.mul len es) cs.length)with
          |false=>rw[ho]at ha;cases ha
          | true=>
            rw[ho]at ha
            obtain⟨_,he⟩:=q0i ha
            cases he;exact(Y1L hg _).trans (.new _ _)
  ·cases ha
theorem copyA_le{dt:TypeId}{d x v:AV}(ha:q7E C dt d x h=some (v,h')):HpLe h h':=by
 unfold q7E at ha
 split at ha
 case h_2=>cases ha
 split at ha
 ·cases ha
 dsimp only at ha
 split at ha
 ·obtain⟨_,he⟩:=q0i ha;cases he;exact .refl _
 ·split at ha
  case h_2=>cases ha
  rename_i hg
  obtain⟨_,he⟩:=q0i ha;cases he;exact .put hg _
 ·cases ha
end
inductive DefRel(P:Program)(F:Nat→Option Obj)(m:Loc):ADef→Deferred→Prop
 |coll {r b z:Nat} (h:m r=some (b,z)):DefRel P F m (.coll r) {target:=.collected b,args:= #[]}
 |fn {g:FuncId} {cap args:List AV} {ccap cargs:Array Value} (h1:LRel P F m cap ccap.toList) (h2:LRel P F m args cargs.toList):DefRel P F m (.fn (.func g) cap args) {target:=.fn (.func g) ccap,args:=cargs}
 |clr {t ty:TypeId} {x:AV} {cx:Value} {ts:Array TypeId} {k:Array Bool} {args:Array Value} (ht:ts[0]? =some t) (ha:args[0]? =some cx) (hx:VRel P F m x cx):DefRel P F m (.clr t x) {target:=.builtin .clear ts ty k,args:=args}
inductive DsRel(P:Program)(F:Nat→Option Obj)(m:Loc):List ADef→List Deferred→Prop
 |nil:DsRel P F m [] []
 |cons {d:ADef} {c:Deferred} {ds:List ADef} {cs:List Deferred} (h:DefRel P F m d c) (hs:DsRel P F m ds cs):DsRel P F m (d::ds) (c::cs)
theorem DefRel.mono{P:Program}{F:Nat→Option Obj}{m m':Loc}(hm:Loc.le m m'){d:ADef}{c:Deferred}(h:DefRel P F m d c):DefRel P F m' d c:=by
 cases h with
 |coll h=>exact .coll (hm _ _ h)
 |fn h1 h2=>exact .fn (h1.mono hm) (h2.mono hm)
 |clr ht ha hx=>exact .clr ht ha (hx.mono hm)
theorem DsRel.mono{P:Program}{F:Nat→Option Obj}{m m':Loc}(hm:Loc.le m m'){d:List ADef}{c:List Deferred}(h:DsRel P F m d c):DsRel P F m' d c:=by
 induction h with
 |nil=>exact .nil
 |cons h _ ih=>exact .cons (h.mono hm) ih
structure ARel(P:Program)(F:Nat→Option Obj)(m:Loc)(s:St)(a:Act):Prop where
 tm:TRel P F m s.tm s.n a.tmps
 ds:DsRel P F m s.ds a.defers
theorem ARel.mono{P:Program}{F:Nat→Option Obj}{m m':Loc}(hm:Loc.le m m'){s:St}{a:Act}(h:ARel P F m s a):ARel P F m' s a:=⟨h.tm.mono hm,h.ds.mono hm⟩
def FenRel(m:Loc):Option Nat→Fence→Prop
 |none,fe=>fe=Fence.wide
 |some l,fe=>∃b z,m l=some (b,z)∧fe=Fence.wide.inRound b
theorem FenRel.mono{m m':Loc}(hm:Loc.le m m'){o:Option Nat}{fe:Fence}(h:FenRel m o fe):FenRel m' o fe:=by
 cases o with
 |none=>exact h
 |some l=>obtain⟨b,z,h1,h2⟩:=h;exact⟨b,z,hm _ _ h1,h2⟩
theorem FenRel.fn{m:Loc}{o:Option Nat}{fe:Fence}(h:FenRel m o fe)(f:FuncId):fe.fn f:=by
 cases o with
 |none=>cases h;trivial
 |some l=>obtain⟨_,_,_,rfl⟩:=h;trivial
theorem FenRel.depth{m:Loc}{o:Option Nat}{fe:Fence}(h:FenRel m o fe):fe.depth=none:=by
 cases o with
 |none=>cases h;rfl
 |some l=>obtain⟨_,_,_,rfl⟩:=h;rfl
def Free(m:Loc)(h h':Hp):Prop:=∀r,h.nx≤r→r<h'.nx→m r=none
def PureC(P:Program)(F:Nat→Option Obj)(f:FuncId)(args:List AV)(v:AV):Prop:=
 ∀ (m:Loc) (w:World) (n:Nat) (cargs:Array Value),(∀b o,Fz F m b o→w.heap[b]? =some o)→LRel P F m args cargs.toList→
  CallsIn Fence.wide n P f cargs w fun e w'=>∃cv fz,e= .returned cv∧SameOut w w'∧w.heap.size≤w'.heap.size∧(∀b,b<w.heap.size→w'.heap[b]? =w.heap[b]?)∧
   (∀b o,fz b=some o→w'.heap[b]? =some o)∧(∀b o,m.fz b=some o→fz b=some o)∧(∀b o,fz b=some o→m.fz b=some o∨w.heap.size≤b)∧VRel P F ⟨fun _=>none,fz⟩ v cv
def Calling(P:Program)(F:Nat→Option Obj)(h h':Hp)(v:AV)(f:FuncId)(args:List AV):Prop:=
 ∀m w n cargs,HRel P F m h w→LRel P F m args cargs.toList→Free m h h'→CallsIn Fence.wide n P f cargs w fun e w'=>∃cv m',e= .returned cv∧Step P F m h h' w w' m'∧VRel P F m' v cv
structure POk(P:Program)(F:Nat→Option Obj)(gl:Nat→AV)(eqT:Knob):Prop where
 eq:EqOk P eqT
 glob:∀(m:Loc) g,VRel P F m (gl g) (.pointer (some ⟨g,0,none⟩))
 names:∀(f:FuncId) (fn:Func),P.funcs[f]? =some fn→fn.body.isSome=true→(fn.name== "runtime.NumGoroutine")=false
 mixed:P.follows .mixedOrders=true
 orc:∀f args v,eqT.orc f args=some v→PureC P F f args v
 ext:∀f args v,eqT.ext f args=some v→∀(m:Loc) (w:World) (cargs:Array Value),LRel P F m args cargs.toList→∃cv w',(callFunc f cargs).run P w= .ok (.value cv) w'∧w'.heap=w.heap∧SameOut w w'∧VRel P F m v cv
 prim:∀f args h v h',eqT.prim f args h=some (v,h')→HpLe h h'∧Calling P F h h' v f args
section
variable{P:Program}{F:Nat→Option Obj}{gl:Nat→AV}{eqT:Knob}{m:Loc}
theorem q0F(hP:POk P F gl eqT){s:St}{a:Act}(h:TRel P F m s.tm s.n a.tmps)(x:Operand):VRel P F m (s.ev (Ctx.of P gl eqT) x) (a.eval x):=by
  cases x with
  | tmp t=>
    show VRel P F m (tget s.tm t) (a.tmps.getD t Go.undef)
    by_cases ht:t<s.n
    ·exact h.at' t ht
    · have ht:=Nat.le_of_not_lt ht
      rw[h.out t ht]
      have:a.tmps.getD t Go.undef= .tuple #[]:=by
        rw[Y1M,Y1N (by rw[h.size];exact ht)];rfl
      rw[this]
      exact Y0p .nil
  |const v=>exact z6H P F m v
  |global g=>exact hP.glob m g
  |func f=>exact .fn (.func f) rfl (fun i x y h _=>by simp at h) rfl (fun i x y h _=>by simp at h)
theorem x5y{C:Ctx}{s:St}{ρ:Operand→Value}(hev:∀x,VRel P F m (s.ev C x) (ρ x)):∀(l:List Operand),LRel P F m (allA C s l) (l.map ρ)
 |[]=>.nil
 |x::l=>.cons (hev x) (x5y hev l)
theorem q9y{C:Ctx}{s:St}{ρ:Operand→Value}(hev:∀x,VRel P F m (s.ev C x) (ρ x))(a:Array Operand):LRel P F m (allA C s a.toList) (a.map ρ).toList:=by
 rw[Array.toList_map];exact x5y hev _
theorem q4o(tm:Tr AV)(d:Nat)(v:AV)(t:Nat):tget (tm.set d v) t=if d=t then v else tget tm t:=by
 unfold tget;rw[Tr.get_set]
 by_cases h:d=t
 ·rw[Y0e h,Y0e h]
 ·rw[Y0c h,Y0c h]
theorem TRel.put{tm:Tr AV}{n:Nat}{t:Array Value}(h:TRel P F m tm n t){d:Nat}{v:AV}{cv:Value}(hd:d<n)(hv:VRel P F m v cv):TRel P F m (tm.set d v) n (t.setIfInBounds d cv):=by
 refine⟨by simp[h.size],fun i hi=> ?_,fun i hi=> ?_⟩
 ·rw[q4o]
  by_cases hdi:d=i
  ·subst hdi
   rw[Y0e rfl,Y1M,Array.getElem?_setIfInBounds_self_of_lt (by rw[h.size];exact hi)]
   exact hv
  ·rw[Y0c hdi,Y1M,Y1G hdi,←Y1M]
   exact h.at' i hi
 ·rw[q4o,Y0c (by omega)];exact h.out i hi
theorem z3w{s s':St}{a:Act}{d:Option Nat}{v:AV}{cv:Value}{h:Hp}(hp:putD s d v h=some s')(ha:ARel P F m s a)(hv:VRel P F m v cv):ARel P F m s' (a.put d cv)∧s'.h=h∧s'.rd=s.rd∧s'.n=s.n∧s'.ds=s.ds:=by
 unfold putD at hp
 split at hp
 ·cases hp;exact⟨⟨ha.tm,ha.ds⟩,rfl,rfl,rfl,rfl⟩
 ·obtain⟨hd,rfl⟩:=q0i hp
  exact⟨⟨ha.tm.put (Y0J hd) hv,ha.ds⟩,rfl,rfl,rfl,rfl⟩
theorem q5d {ops:Array Oper} {s:St} {a:Act} (ha:ARel P F m s a) {o:Oper} {b:Bool} (h:q6u ops.toList s o=some b):Region.wanted o (yielded ops a.tmps)=b:=by
  unfold q6u at h
  unfold Region.wanted
  split at h
  ·rename_i hg;rw[hg];cases h;rfl
  · rename_i j want hg
    rw[hg]
    dsimp only
    unfold yielded
    split at h
    · rename_i p hp
      have hp':ops[j]? =some p:=by simpa using hp
      rw[hp']
      split at h
      · rename_i d hd
        simp only[Option.bind_some,hd]
        have hv:a.tmps[d]? =none∨∃cv,a.tmps[d]? =some cv∧VRel P F m (tget s.tm d) cv:=by
          cases hx:a.tmps[d]? with
          |none=>exact .inl rfl
          | some cv=>
            refine .inr ⟨cv,rfl,?_⟩
            have hlt:d<a.tmps.size:=(Y0s.1 hx).1
            have:=ha.tm.at' d (by rw[←ha.tm.size];exact hlt)
            rw[Y1M,hx]at this
            exact this
        split at h
        · rename_i t ht
          cases h
          rcases hv with hv|⟨cv,hv,hr⟩
          · exfalso
            have hge:s.n≤d:=by
              rw[←ha.tm.size]
              rcases Y1w d a.tmps.size with h'|h'
              ·rw[Y0M h']at hv;cases hv
              ·exact h'
            rw[ha.tm.out d hge]at ht;cases ht
          · rw[ht]at hr
            obtain rfl:=hr.bool_inv
            rw[hv];cases t<;>cases want<;>rfl
        ·cases h
        · rename_i hb hu
          cases h
          rcases hv with hv|⟨cv,hv,hr⟩
          ·rw[hv];rfl
          · rw[hv]
            cases cv with
            | bool t=>
              exfalso
              cases hx:tget s.tm d<;>rw[hx]at hr hb hu<;>first|exact hu rfl|exact hb _ rfl|(cases hr;done)|(cases hr with|raw h=>cases h)
            |_=>rfl
      · rename_i hd
        cases h
        simp only[Option.bind_some,hd,Option.bind_none]
        rfl
    · rename_i hp
      cases h
      have hp':ops[j]? =none:=by simpa using hp
      rw[hp'];rfl
end
end Go.Ax
namespace Go.Ax
section
variable{P:Program}{F:Nat→Option Obj}{gl:Nat→AV}{eqT:Knob}{m:Loc}
theorem x6k{t:TypeId}{x v:AV}{cx:Value}{h h':Hp}{w:World}(ha:z5j (Ctx.of P gl eqT) t x h=some (v,h'))(hx:VRel P F m x cx)(hr:HRel P F m h w)(hn:∀r,h.nx≤r→r<h'.nx→m r=none):
  ∃cv w' m',(Instr.range t cx).run P w= .ok cv w'∧Step P F m h h' w w' m'∧VRel P F m' v cv:=by
 unfold z5j at ha;cases ha
theorem nextM_rel{x v:AV}{cx:Value}{ty:TypeId}{h h':Hp}{w:World}(ha:x7C x h=some (v,h'))(hx:VRel P F m x cx)(hr:HRel P F m h w):
  ∃cv w',(Instr.next cx false ty).run P w= .ok cv w'∧Step P F m h h' w w' m∧VRel P F m v cv:=by
 unfold x7C at ha;cases ha
theorem nextA_rel{x v:AV}{cx:Value}{ty:TypeId}{h h':Hp}{w:World}(ha:x0x x h=some (v,h'))(hx:VRel P F m x cx)(hr:HRel P F m h w):
  ∃cv w',(Instr.next cx true ty).run P w= .ok cv w'∧Step P F m h h' w w' m∧VRel P F m v cv:=by
 unfold x0x at ha;cases ha
theorem x1u{n:Nat}:∀(es:List (AV×AV×Nat)) (ces:List MapEntry) (k v:AV),x7F n es=some (k,v)→es.length=ces.length→(∀(i:Nat) (x:AV×AV×Nat) (y:MapEntry),es[i]? =some x→ces[i]? =some y→ERel P F m x y)→
    ∃e,ces.find? (fun e=>e.born==n)=some e∧VRel P F m k e.key∧VRel P F m v e.val
  |[],ces,k,v,h,_,_=>by cases h
  | (q, u,b)::es,ces,k,v,h,hl,hc=>by
    cases ces with
    |nil=>cases hl
    |cons e ces=>
    have he:=hc 0 _ _ rfl rfl
    have hb:b=e.born:=he.born
    unfold x7F at h
    rw[List.find?_cons]
    by_cases hbn:b=n
    · subst hbn
      rw[Y1o,Y0V]at h
      cases h
      rw[show(e.born==b)=true by rw[←hb];simp]
      exact⟨e,rfl,he.key,he.val⟩
    · have hne:Nat.beq b n=false:=by
        cases hx:Nat.beq b n with
        |false=>rfl
        |true=>exact absurd (Y0P hx) hbn
      rw[hne,Y1b]at h
      rw[show(e.born==n)=false by rw[←hb];simp[hbn]]
      exact x1u es ces k v h (by simpa using hl) (fun i x y hx hy=>hc (i+1) x y (by simpa using hx) (by simpa using hy))
theorem x6O{x v:AV}{cx:Value}{h:Hp}{w:World}(ha:x7R x h=some v)(hx:VRel P F m x cx)(hr:HRel P F m h w):∃cv,(Instr.entry cx).run P w= .ok cv w∧VRel P F m v cv:=by
 unfold x7R at ha
 split at ha
 case h_2=>cases ha
 rename_i r
 split at ha
 case h_2=>cases ha
 rename_i q since seen last hg
 split at ha
 case h_2=>cases ha
 rename_i es clock b0 hgq hlast
 have hcl:clock=last:=by
  cases hb:Nat.beq clock last with
  |true=>exact Y0P hb
  |false=>rw[hb]at ha;cases ha
 rw[hcl,Y1o,Y0V]at ha
 cases hf:x7F b0 es with
 |none=>rw[hf]at ha;cases ha
 |some ku=>
 obtain⟨k,u⟩:=ku
 rw[hf]at ha
 cases ha
 obtain⟨bl,z,hm,rfl⟩:=hx.ptr_inv
 obtain⟨b,y,hmq,h1⟩:=hr.obj r _ bl z hg hm
 obtain⟨ces,k1,k2,k3⟩:=hr.obj q _ b y hgq hmq
 obtain⟨e,g1,g2,g3⟩:=x1u es ces.toList k u hf (by simpa using k2) (fun i x y hx hy=>k3 i x y hx (by simpa using hy))
 have g1':ces.find? (fun e=>e.born==b0)=some e:=by rw[←Array.find?_toList];exact g1
 have hb:seen.toArray.back? =some b0:=by rw[List.back?_toArray];exact hlast
 refine⟨.tuple #[e.key,e.val],?_,Y0p (.cons g2 (.cons g3 .nil))⟩
 simp only[Instr.entry,Sem.run_bind,q5u h1 rfl,Result.andThen_ok,hb,q5u k1 rfl,hcl]
 simp[g1']
theorem z9O(hE:EqOk P eqT){t:TypeId}{x k v:AV}{cx ck:Value}{h h':Hp}{w:World}(hp:q6R (Ctx.of P gl eqT) t x k h=some (v,h'))(hx:VRel P F m x cx)(hk:VRel P F m k ck)(hr:HRel P F m h w):
  ∃cv w',(Instr.mapEntry t cx ck).run P w= .ok cv w'∧Step P F m h h' w w' m∧VRel P F m v cv:=by
 unfold q6R at hp;cases hp
theorem z7E{t:TypeId}{x st v:AV}{cx cst cv:Value}{h h':Hp}{w:World}(hp:q4e x st v h=some h')(hx:VRel P F m x cx)(hst:VRel P F m st cst)(hv:VRel P F m v cv)(hr:HRel P F m h w):
  ∃w',(Instr.entryStore t cx cst cv).run P w= .ok () w'∧Step P F m h h' w w' m:=by
 unfold q4e at hp;cases hp
theorem z7s:∀(new:List AV) (l:List Nat) (cs:List Value),bytesOf new=some l→LRel P F m new cs→cs=l.map (fun(n:Nat)=>Value.int .u8 (.ofNat n))∧∀n∈l,n<256
  |[],l,cs,h,hc=>by cases h;cases hc.cases_nil;exact⟨rfl,nofun⟩
  | v ::new,l,cs,h,hc=>by
    obtain⟨c,cs,rfl,h1,h2⟩:=hc.cases_cons
    unfold bytesOf at h
    split at h
    ·rename_i h0;cases h0
    · rename_i n l0 h0
      cases h0
      obtain⟨hn,h⟩:=q2p h
      split at h
      case h_2=>cases h
      rename_i k hk
      cases h
      obtain⟨g1,g2⟩:=z7s new k cs hk h2
      obtain rfl:=h1.int_inv
      refine⟨by rw[g1];rfl,fun q hq=> ?_⟩
      cases hq with
      |head=>exact Y0J hn
      |tail _ hq=>exact g2 q hq
    ·cases h
section le
variable{C:Ctx}{h h':Hp}
theorem rangeA_le{t:TypeId}{x v:AV}(ha:z5j C t x h=some (v,h')):HpLe h h':=by
 unfold z5j at ha;cases ha
theorem nextM_le{x v:AV}(ha:x7C x h=some (v,h')):HpLe h h':=by
 unfold x7C at ha;cases ha
theorem nextA_le{x v:AV}(ha:x0x x h=some (v,h')):HpLe h h':=by
 unfold x0x at ha;cases ha
theorem x1R{t:TypeId}{x k v:AV}(ha:q6R C t x k h=some (v,h')):HpLe h h':=by
 unfold q6R at ha;cases ha
theorem z7Y{x st v:AV}(ha:q4e x st v h=some h'):HpLe h h':=by
 unfold q4e at ha;cases ha
end le
end
end Go.Ax
namespace Go.Ax
section
variable{P:Program}{F:Nat→Option Obj}{gl:Nat→AV}{eqT:Knob}{m:Loc}
theorem x3Y{t:TypeId}{x:TI}(h:(Ctx.of P gl eqT).ti t=some x):P.cellsOf t=x.size:=by
 obtain⟨i,hi,e,_⟩:=q6v h
 simp[Program.cellsOf,hi,e]
theorem convB_rel{a b:TypeId}{x v:AV}{cx:Value}{h:Hp}{w:World}(hi:q3I x=true)(hc:x2P (Ctx.of P gl eqT) a b x h=some v)(hx:VRel P F m x cx)(hr:HRel P F m h w):∃cv,(convert a b cx).run P w= .ok cv w∧VRel P F m v cv:=by
 unfold x2P at hc;cases hc
theorem z8L{ts:Array TypeId}{t ty:TypeId}{x:AV}{cx:Value}{args:Array Value}{h h':Hp}{w:World}(t0:ts[0]? =some t)(a0:args[0]? =some cx)(hc:z8v (Ctx.of P gl eqT) t x h=some h')(hx:VRel P F m x cx)(hr:HRel P F m h w):
  ∃w',(Builtin.clear_ ts ty args).run P w= .ok (.tuple #[]) w'∧Step P F m h h' w w' m:=by
 unfold z8v at hc;cases hc
theorem x1w{C:Ctx}{t:TypeId}{x:AV}{h h':Hp}(hc:z8v C t x h=some h'):HpLe h h':=by
 unfold z8v at hc;cases hc
end
end Go.Ax
namespace Go.Ax
section
variable{P:Program}{F:Nat→Option Obj}{gl:Nat→AV}{eqT:Knob}{m:Loc}
def Does(P:Program)(F:Nat→Option Obj)(m:Loc)(h h':Hp)(w:World)(v:AV)(q:Sem Next):Prop:=
 ∃x cv w' m',q.run P w= .ok x w'∧(x=Next.value cv∨(x=Next.skip∧cv=Go.undef))∧Step P F m h h' w w' m'∧VRel P F m' v cv
theorem Does.ofV{h h':Hp}{w:World}{v:AV}{q:Sem Value}(hd:∃cv w' m',q.run P w= .ok cv w'∧Step P F m h h' w w' m'∧VRel P F m' v cv):
  Does P F m h h' w v (do pure (Next.value (←q))):=by
 obtain⟨cv,w',m',h1,h2,h3⟩:=hd
 exact⟨.value cv,cv,w',m',by rw[Sem.run_bind,h1];rfl,.inl rfl,h2,h3⟩
theorem Does.pureV{h:Hp}{w:World}{v:AV}{q:Sem Value}(hr:HRel P F m h w)(hd:∃cv,q.run P w= .ok cv w∧VRel P F m v cv):
  Does P F m h h w v (do pure (Next.value (←q))):=by
 obtain⟨cv,h1,h3⟩:=hd
 exact .ofV ⟨cv,w,m,h1,Y0t hr rfl (Y0r w),h3⟩
abbrev Y1O:=@Does.pureV
theorem Does.ofU{h h':Hp}{w:World}{q:Sem Unit}(hd:∃w',q.run P w= .ok () w'∧Step P F m h h' w w' m):
  Does P F m h h' w .undef (do q;pure Next.skip):=by
 obtain⟨w',h1,h2⟩:=hd
 exact⟨.skip,Go.undef,w',m,by rw[Sem.run_bind,h1];rfl,.inr ⟨rfl,rfl⟩,h2,.undef _⟩
theorem Does.wp{h h':Hp}{w:World}{v:AV}{o:Oper}{a:Act}{fe:Fence}{rd:Option Nat}{n:Nat}{K:Act→World→Prop}{Q:Exit→Act→World→Prop}
  (hd:Does P F m h h' w v (execOp a.eval o)) (hnd:∀c,o.op≠ .defer c) (hf:FenRel m rd fe)
  (hK:∀m' cv w',Step P F m h h' w w' m'→VRel P F m' v cv→K (a.put o.dst cv) w'):o.wpIn fe n P a w K Q:=by
 obtain⟨x,cv,w',m',h1,h2,h3,h4⟩:=hd
 refine⟨fun f _=>hf.fn f,?_⟩
 rw[Oper.semAt_eq _ _ _ hnd,h1]
 rcases h2 with rfl|⟨rfl,rfl⟩
 ·exact hK _ _ _ h3 h4
 ·exact hK _ _ _ h3 h4
theorem q0M{α:Type}{f:α→OpR}{x:Option α}{r:OpR}(h:ov f x=some r):∃y,x=some y∧r=f y:=by
 cases x with
 |none=>cases h
 |some y=>cases h;exact⟨y,rfl,rfl⟩
theorem min_rel{k:IntKind}{a b:Int}{w:World}{ts:Array TypeId}{ty:TypeId}{args:Array Value}(ha:args.toList= [.int k a,.int k b]):
  (Builtin.min_ ts ty args).run P w= .ok (.int k (bif ltI b a then b else a)) w:=by
 simp only[Builtin.min_,ha,List.foldlM,Builtin.min2,q7P]
 by_cases h:b<a<;>simp[h]
theorem max_rel{k:IntKind}{a b:Int}{w:World}{ts:Array TypeId}{ty:TypeId}{args:Array Value}(ha:args.toList= [.int k a,.int k b]):
  (Builtin.max_ ts ty args).run P w= .ok (.int k (bif ltI a b then b else a)) w:=by
 simp only[Builtin.max_,ha,List.foldlM,Builtin.max2,q7P]
 by_cases h:a<b<;>simp[h]
theorem min3_rel{k:IntKind}{a b c:Int}{w:World}{ts:Array TypeId}{ty:TypeId}{args:Array Value}(ha:args.toList= [.int k a,.int k b,.int k c]):
  (Builtin.min_ ts ty args).run P w= .ok (.int k (bif ltI c (bif ltI b a then b else a)then c else(bif ltI b a then b else a))) w:=by
 simp only[Builtin.min_,ha,List.foldlM,Builtin.min2,q7P]
 by_cases h:b<a
 ·by_cases h2:c<b<;>simp[h,h2]
 ·by_cases h2:c<a<;>simp[h,h2]
theorem x2h (hE:EqOk P eqT) {b:Builtin} {ts:Array TypeId} {ty:TypeId} {cn:Array Bool} {args:List AV} {cargs:Array Value} {h:Hp} {w:World} {r:OpR}
    (hb:q4p (Ctx.of P gl eqT) b ts.toList args h=some r) (hx:LRel P F m args cargs.toList) (hr:HRel P F m h w) (hn:∀h',(∃v,r= .val v h')→Free m h h'):
    ∃v h',r= .val v h'∧Does P F m h h' w v (builtin b ts ty cn cargs):=by
  have at':∀{l:List Value} {a:Array Value},a.toList=l→∀i,a[i]? =l[i]? :=fun e i=>by rw[←e];exact Array.getElem?_toList.symm
  unfold q4p at hb
  split at hb
  · rename_i t tl x xl ht
    obtain⟨cx,cxl,e1,e2,e3⟩:=hx.cases_cons
    have ha:=at' e1 0
    have ht0:ts[0]? =some t:=by have:=Y1K (·[0]?) ht;simpa using this
    split at hb
    · rename_i v hv
      cases hb
      exact⟨_,_,rfl,Y1O hr (x6z ht0 ha hv e2 hr)⟩
    ·cases hb
  · rename_i st xt tl s x xl ht
    obtain⟨cs,csl,e1,e2,e3⟩:=hx.cases_cons
    obtain⟨cx,cxl,e4,e5,e6⟩:=e3.cases_cons
    subst e4
    have ht0:ts[0]? =some st:=by have:=Y1K (·[0]?) ht;simpa using this
    have ht1:ts[1]? =some xt:=by have:=Y1K (·[1]?) ht;simpa using this
    split at hb
    · rename_i v h' hv
      cases hb
      exact⟨_,_,rfl,Does.ofV (x4i ht0 ht1 (at' e1 0) (at' e1 1) hv e2 e5 hr (hn h' ⟨_,rfl⟩))⟩
    ·cases hb
  · rename_i dt tl d x xl ht
    obtain⟨cd,csl,e1,e2,e3⟩:=hx.cases_cons
    obtain⟨cx,cxl,e4,e5,e6⟩:=e3.cases_cons
    subst e4
    have ht0:ts[0]? =some dt:=by have:=Y1K (·[0]?) ht;simpa using this
    split at hb
    · rename_i v h' hv
      cases hb
      obtain⟨cv,w',g1,g2,g3⟩:=copyA_rel (ty:=ty) ht0 (at' e1 0) (at' e1 1) hv e2 e5 hr
      exact⟨_,_,rfl,Does.ofV ⟨cv,w',m,g1,g2,g3⟩⟩
    ·cases hb
  ·
    rename_i t tl x k ht
    obtain⟨cx,cxl,e1,e2,e3⟩:=hx.cases_cons
    obtain⟨ck,csl,e4,e5,e6⟩:=e3.cases_cons
    subst e4
    cases e6.cases_nil
    have ht0:ts[0]? =some t:=by have:=Y1K (·[0]?) ht;simpa using this
    split at hb
    · rename_i h' hv
      cases hb
      obtain⟨w',g1,g2⟩:=x6t (rt:=ty) hE hv ht0 e2 e5 hr
      obtain rfl:=Y1P (ys:= #[cx,ck]) e1
      exact⟨_,_,rfl,Does.ofV ⟨.tuple #[],w',m,g1,g2,Y0p .nil⟩⟩
    ·cases hb
  ·
    rename_i a b
    cases hb
    obtain⟨cx,cxl,e1,e2,e3⟩:=hx.cases_cons
    obtain⟨cy,csl,e4,e5,e6⟩:=e3.cases_cons
    subst e4
    cases e6.cases_nil
    obtain rfl:=e2.raw_inv
    obtain rfl:=e5.raw_inv
    obtain rfl:=Y1P (ys:= #[Value.float .f64 a,Value.float .f64 b]) e1
    exact⟨_,_,rfl,Y1O hr ⟨.complex .f64 a b,rfl,.raw rfl⟩⟩
  ·
    rename_i k a b
    cases hb
    obtain⟨cx,cxl,e1,e2,e3⟩:=hx.cases_cons
    cases e3.cases_nil
    obtain rfl:=e2.raw_inv
    obtain rfl:=Y1P (ys:= #[Value.complex k a b]) e1
    exact⟨_,_,rfl,Y1O hr ⟨.float k a,rfl,.raw rfl⟩⟩
  ·
    rename_i k a b
    cases hb
    obtain⟨cx,cxl,e1,e2,e3⟩:=hx.cases_cons
    cases e3.cases_nil
    obtain rfl:=e2.raw_inv
    obtain rfl:=Y1P (ys:= #[Value.complex k a b]) e1
    exact⟨_,_,rfl,Y1O hr ⟨.float k b,rfl,.raw rfl⟩⟩
  ·
    rename_i t tl x xl ht
    obtain⟨cx,cxl,e1,e2,e3⟩:=hx.cases_cons
    have ht0:ts[0]? =some t:=by have:=Y1K (·[0]?) ht;simpa using this
    split at hb
    · rename_i h' hv
      cases hb
      obtain⟨w',g1,g2⟩:=z8L (ty:=ty) ht0 (at' e1 0) hv e2 hr
      exact⟨_,_,rfl,Does.ofV ⟨.tuple #[],w',m,g1,g2,Y0p .nil⟩⟩
    ·cases hb
  ·
    cases hb
    obtain⟨cx,cxl,e1,e2,e3⟩:=hx.cases_cons
    cases e3.cases_nil
    obtain rfl:=e2.nilsl_inv
    obtain rfl:cargs= #[.slice none 0 0]:=Y1P e1
    exact⟨_,_,rfl,Y1O hr ⟨.pointer none,rfl,.nilptr⟩⟩
  ·
    rename_i r o len cap es ex
    obtain⟨cx,cxl,e1,e2,e3⟩:=hx.cases_cons
    cases e3.cases_nil
    obtain⟨b,z,ccap,hm,rfl,h1,h2,h3,h4⟩:=e2.sl_inv
    obtain rfl:=Y1P (ys:= #[Value.slice (some ⟨b,o,none⟩) len ccap]) e1
    cases hz:Nat.beq cap 0 with
    |true=>rw[hz]at hb;cases hb
    | false=>
      rw[hz]at hb;cases hb
      have hne:ccap≠0:=fun e=>by
        have:cap=0:=by omega
        rw[this]at hz;cases hz
      exact⟨_,_,rfl,Y1O hr ⟨.pointer (some ⟨b,o,none⟩),by show Sem.run P (ite (ccap≠0) _ _) w=_;rw[Y0e hne];rfl,.ptr hm⟩⟩
  ·
    rename_i t tu ht
    obtain⟨cs,csl,e1,e2,e3⟩:=hx.cases_cons
    obtain⟨cx,cxl,e4,e5,e6⟩:=e3.cases_cons
    subst e4
    cases e6.cases_nil
    obtain rfl:=e2.nilptr_inv
    obtain rfl:=e5.int_inv
    obtain rfl:=Y1P (ys:= #[Value.pointer none,Value.int .i64 0]) e1
    obtain rfl:=Y1P (ys:= #[t,tu]) ht
    split at hb
    case h_2=>cases hb
    cases hb
    exact⟨_,_,rfl,Y1O hr ⟨.string .empty,Lib.run_unsafeString_none w _ _ _ none,VRel.str ByteArray.empty⟩⟩
  ·
    rename_i t tu r n ht
    obtain⟨cs,csl,e1,e2,e3⟩:=hx.cases_cons
    obtain⟨cx,cxl,e4,e5,e6⟩:=e3.cases_cons
    subst e4
    cases e6.cases_nil
    obtain⟨b,z,hm,rfl⟩:=e2.ptr_inv
    obtain rfl:=e5.int_inv
    obtain rfl:=Y1P (ys:= #[Value.pointer (some ⟨b,0,none⟩),Value.int .i64 (.ofNat n)]) e1
    obtain rfl:=Y1P (ys:= #[t,tu]) ht
    split at hb
    case h_2=>cases hb
    rename_i u size isAgg zero zeroOk bytes comparable zv e cells hti hg
    have hu:=q0A hti
    dsimp only at hu
    split at hb
    case h_2=>cases hb
    rename_i y l hy hsub
    split at hb
    case h_2=>cases hb
    rename_i str hstr
    obtain⟨hc,he⟩:=q0i hb
    obtain⟨c1,hc⟩:=q0p hc
    obtain⟨c2,c3⟩:=q0p hc
    obtain rfl:=Y0P c1
    have c2:=Y0P c2
    have c3:=Y0J c3
    obtain⟨hle,rfl⟩:=z6i hsub
    have hle:0+n≤cells.length:=hle
    obtain⟨arr,g1,g2,g3,g4⟩:=hr.obj r _ b z hg hm
    have hco:=x3Y hy
    have hL:LRel P F m ((cells.drop 0).take n) (arr.toList.take n):=by
      rw[Y1Q]
      refine⟨by simp;omega,fun i x y hx hy=> ?_⟩
      rw[Y0k]at hx hy
      split at hx
      ·rename_i hi;rw[Y0e hi]at hy;exact g4 i x y hx (by simpa using hy)
      ·cases hx
    obtain⟨k1,k2⟩:=z7s _ str _ hstr hL
    have hslen:str.length=n:=by
      have:=Y1K List.length k1
      rw[Y1R,Y1q,Y0Q]at this;omega
    cases hz:Nat.beq n 0 with
    | true=>
      rw[hz]at he
      obtain rfl:=Y0P hz
      obtain rfl:str= []:=by cases str with|nil=>rfl|cons _ _=>cases hslen
      subst he
      exact⟨_,_,rfl,Y1O hr ⟨.string .empty,Lib.run_unsafeString_none w _ _ _ _,VRel.str ByteArray.empty⟩⟩
    | false =>
      rw[hz,Y1b]at he
      subst he
      have hne:n≠0:=fun e=>by rw[e]at hz;cases hz
      have hrun:=Lib.run_unsafeString_row (P:=P) w t tu ty e hu (by rw[hco];exact c2) b arr.size (by simp[World.shape?,g1]) (str.map fun n=>n.toUInt8) (by cases str with|nil=>exact absurd hslen.symm hne|cons _ _=>exact nofun) (by rw[Y1q];omega) (by rw[Y1q];omega) (fun j x hj=>by
        rw[Y0R]at hj
        cases hq:str[j]? with
        |none=>rw[hq]at hj;cases hj
        | some q=>
          rw[hq]at hj;cases hj
          have hq256:=k2 q (Y0N hq)
          rw[q2U,Y0L,z1K g1]
          have h5:(arr.toList.take n)[j]? =some (.int .u8 (.ofNat q)):=by rw[k1,Y0R,hq];rfl
          rw[Y0k]at h5
          split at h5
          · have e8:(q.toUInt8).toNat=q:=by
              show(UInt8.ofNat q).toNat=q
              simp;omega
            have h6:arr[j]? =some (.int .u8 (.ofNat q)):=by simpa using h5
            rw[h6]
            show some (Value.int .u8 (.ofNat q))=some (Value.int .u8 (Int.ofNat (q.toUInt8).toNat))
            rw[e8]
          ·cases h5)
      rw[Y1q,hslen]at hrun
      have hstr':VRel P F m (.str str) (.string ⟨(str.map fun n=>n.toUInt8).toArray⟩):=by
        have h6:((⟨(str.map fun n=>n.toUInt8).toArray⟩:ByteArray).data.toList.map UInt8.toNat)=str:=by
          show List.map UInt8.toNat (str.map fun n=>n.toUInt8)=str
          rw[Y1D]
          have hb':∀l:List Nat,(∀n∈l,n<256)→l.map (UInt8.toNat∘fun n=>n.toUInt8)=l:=fun l hl=>by
            induction l with
            |nil=>rfl
            | cons n l ih=>
              rw[Y1f,ih fun q hq=>hl q (Y0U _ hq)]
              congr 1
              have:=hl n (Y0T ..)
              simp;omega
          exact hb' str k2
        have:=VRel.str (P:=P) (F:=F) (m:=m) (⟨(str.map fun n=>n.toUInt8).toArray⟩:ByteArray)
        rw[h6]at this;exact this
      have hfr:w.freeze ⟨b,0,none⟩ n={w with heap:=w.heap.modify b fun
          | .cells c elem (lo,hi)=>.cells c elem (if lo==hi then(0,0+n)else(min lo 0,max hi (0+n)))
          |o=>o}:=by
        unfold World.freeze;rw[Y0c hne];rfl
      have hat:(w.freeze ⟨b,0,none⟩ n).heap[b]? =some (.cells arr e (0,0+n)):=by
        rw[hfr]
        show(w.heap.modify b _)[b]? =_
        rw[Y1J,Y0e rfl,g1]
        rfl
      have hot:∀c,c≠b→(w.freeze ⟨b,0,none⟩ n).heap[c]? =w.heap[c]? :=fun c hc=>by
        rw[hfr]
        show(w.heap.modify b _)[c]? =_
        rw[Y1J,Y0c (Ne.symm hc)]
      have hsz:(w.freeze ⟨b,0,none⟩ n).heap.size=w.heap.size:=by
        rw[hfr];exact Array.size_modify
      have hso:SameOut w (w.freeze ⟨b,0,none⟩ n):=by rw[hfr];exact⟨rfl,rfl,rfl⟩
      exact⟨_,_,rfl,Does.ofV ⟨_,w.freeze ⟨b,0,none⟩ n,m,hrun,Step.put hr hg rfl hm hat hot hsz hso trivial,hstr'⟩⟩
  · rename_i k a j b i c
    obtain⟨hk,he⟩:=q0i hb
    obtain⟨hk,hk2⟩:=q0p hk
    obtain rfl:=q5w hk
    obtain rfl:=q5w hk2
    obtain⟨cs,csl,e1,e2,e3⟩:=hx.cases_cons
    obtain⟨cx,cxl,e4,e5,e6⟩:=e3.cases_cons
    subst e4
    obtain⟨cy,cyl,e7,e8,e9⟩:=e6.cases_cons
    subst e7
    cases e9.cases_nil
    obtain rfl:=e2.int_inv
    obtain rfl:=e5.int_inv
    obtain rfl:=e8.int_inv
    subst he
    exact⟨_,_,rfl,Y1O hr ⟨_,min3_rel e1,.int _ _⟩⟩
  · rename_i k a j b
    obtain⟨hk,he⟩:=q0i hb
    obtain rfl:=q5w hk
    obtain⟨cs,csl,e1,e2,e3⟩:=hx.cases_cons
    obtain⟨cx,cxl,e4,e5,e6⟩:=e3.cases_cons
    subst e4
    cases e6.cases_nil
    obtain rfl:=e2.int_inv
    obtain rfl:=e5.int_inv
    subst he
    exact⟨_,_,rfl,Y1O hr ⟨_,min_rel e1,.int _ _⟩⟩
  · rename_i k a j b
    obtain⟨hk,he⟩:=q0i hb
    obtain rfl:=q5w hk
    obtain⟨cs,csl,e1,e2,e3⟩:=hx.cases_cons
    obtain⟨cx,cxl,e4,e5,e6⟩:=e3.cases_cons
    subst e4
    cases e6.cases_nil
    obtain rfl:=e2.int_inv
    obtain rfl:=e5.int_inv
    subst he
    exact⟨_,_,rfl,Y1O hr ⟨_,max_rel e1,.int _ _⟩⟩
  ·cases hb
theorem x2g{C:Ctx}{b:Builtin}{ts:List TypeId}{args:List AV}{h:Hp}{r:OpR}(ho:q4p C b ts args h=some r):∃v h',r= .val v h':=by
 unfold q4p at ho
 split at ho
 ·split at ho<;>cases ho;exact⟨_,_,rfl⟩
 ·split at ho<;>cases ho;exact⟨_,_,rfl⟩
 ·split at ho<;>cases ho;exact⟨_,_,rfl⟩
 ·split at ho<;>cases ho;exact⟨_,_,rfl⟩
 ·cases ho;exact⟨_,_,rfl⟩
 ·cases ho;exact⟨_,_,rfl⟩
 ·cases ho;exact⟨_,_,rfl⟩
 ·split at ho<;>cases ho;exact⟨_,_,rfl⟩
 ·cases ho;exact⟨_,_,rfl⟩
 ·rename_i r o len cap es ex
  cases hz:Nat.beq cap 0 with
  |true=>rw[hz]at ho;cases ho
  |false=>rw[hz]at ho;cases ho;exact⟨_,_,rfl⟩
 ·split at ho<;>cases ho;exact⟨_,_,rfl⟩
 ·split at ho
  case h_2=>cases ho
  split at ho
  case h_2=>cases ho
  split at ho
  case h_2=>cases ho
  obtain⟨_,he⟩:=q0i ho;exact⟨_,_,he.symm⟩
 ·obtain⟨_,he⟩:=q0i ho;exact⟨_,_,he.symm⟩
 ·obtain⟨_,he⟩:=q0i ho;exact⟨_,_,he.symm⟩
 ·obtain⟨_,he⟩:=q0i ho;exact⟨_,_,he.symm⟩
 ·cases ho
theorem x4f{C:Ctx}{b:Builtin}{ts:List TypeId}{args:List AV}{h h':Hp}{v:AV}(hb:q4p C b ts args h=some (.val v h')):HpLe h h':=by
 unfold q4p at hb
 split at hb
 ·split at hb
  ·cases hb;exact .refl _
  ·cases hb
 ·split at hb
  ·rename_i hv;cases hb;exact x7h hv
  ·cases hb
 ·split at hb
  ·rename_i hv;cases hb;exact copyA_le hv
  ·cases hb
 ·split at hb
  ·rename_i hv;cases hb;exact mapDel_le hv
  ·cases hb
 ·cases hb;exact .refl _
 ·cases hb;exact .refl _
 ·cases hb;exact .refl _
 ·split at hb
  ·rename_i hv;cases hb;exact x1w hv
  ·cases hb
 ·cases hb;exact .refl _
 ·rename_i r o len cap es ex
  cases hz:Nat.beq cap 0 with
  |true=>rw[hz]at hb;cases hb
  |false=>rw[hz]at hb;cases hb;exact .refl _
 ·split at hb
  ·cases hb;exact .refl _
  ·cases hb
 ·rename_i t tu r n
  split at hb
  case h_2=>cases hb
  rename_i hg
  split at hb
  case h_2=>cases hb
  split at hb
  case h_2=>cases hb
  obtain⟨_,he⟩:=q0i hb
  cases hz:Nat.beq n 0 with
  |true=>rw[hz]at he;cases he;exact .refl _
  |false=>rw[hz]at he;cases he;exact .put hg _
 ·obtain⟨_,he⟩:=q0i hb;cases he;exact .refl _
 ·obtain⟨_,he⟩:=q0i hb;cases he;exact .refl _
 ·obtain⟨_,he⟩:=q0i hb;cases he;exact .refl _
 ·cases hb
end
end Go.Ax
namespace Go
variable{P:Program}{F:Fence}{n:Nat}
theorem x5V{fr:Frame}{cs:List Frame}{w w':World}{d:Deferred}{b:Builtin}{ts:Array TypeId}{ty:TypeId}{k:Array Bool}{v:Value}{ds:List Deferred}
  (hm:fr.mode≠ .run) (hd:fr.defers=d::ds) (ht:d.target= .builtin b ts ty k) (hi:(invoke d.target d.args).run P w= .ok (.value v) w'):
  step P (lone fr cs w)= .next (lone {fr with defers:=ds} cs w'):=by
 obtain⟨t,a⟩:=d
 simp only at ht
 subst ht
 refine step_lone_go ?_
 cases hmode:fr.mode with
 |run=>exact absurd hmode hm
 |returning=>simp[stepG,unwind,callDeferred,hmode,hd,Sem.runT_eq,hi,GStep.bare_after]
 |panicking chain=>simp[stepG,unwind,callDeferred,hmode,hd,Sem.runT_eq,hi,GStep.bare_after]
def q4I (F:Fence) (n:Nat) (P:Program) (fn:Func) (tmps:Array Value) (R:Ending→World→Prop):List Deferred→FrameMode→World→Prop
  |[],u,w=>LeavesIn F n P fn tmps R [] u w
  | d :: ds,u,w=>u≠ .run∧
      ((∃ r w',d.target= .collected r∧(Instr.takeDeferred r).run P w= .ok [] w'∧q4I F n P fn tmps R ds u w')∨
       (∃b ts ty k v w',d.target= .builtin b ts ty k∧(invoke d.target d.args).run P w= .ok (.value v) w'∧q4I F n P fn tmps R ds u w')∨
       ((F.depth.isSome=true→1≤n)∧∃fv cap f args,d.target= .fn fv cap∧(invoke d.target d.args).run P w= .ok (.enter f args) w∧(∀g,d.target.leads P w d.args=some g→F.fn g)∧
        CallsDIn F (n-1) P f args u w fun e u' w'=>match e with
          | .returned _=>q4I F n P fn tmps R ds (settle u') w'
          | .panicked chain=>q4I F n P fn tmps R ds (raised u' chain) w'
          | .outgrown=>R .outgrown w'))
theorem q3q{fn:Func}{tmps:Array Value}{R:Ending→World→Prop}:∀(ds:List Deferred) (u:FrameMode) (w:World) (fr:Frame)
    (cs:List Frame),fr.mode=u→fr.defers=ds→fr.tmps=tmps→P.funcs[fr.fn]? =some fn→fr.kind= .normal→F.fn fr.fn→F.room (cs.length+1+n)→q4I F n P fn tmps R ds u w→
    ∃e w' fr',R e w'∧ComesIn (Machine.fenced P F) P (lone fr cs w) (lone fr' cs w') e∧fr'.fn=fr.fn∧fr'.leaving P w' e
  |[],u,w,fr,cs,hu,hd,ht,hf,hk,hb,hroom,h=>leaves_stepsIn [] u w fr cs hu hd ht hf hk hb hroom h
  | d ::ds,u,w,fr,cs,hu,hd,ht,hf,hk,hb,hroom,h=>by
    obtain⟨hrun,h⟩:=h
    have hrun':fr.mode≠ .run:=hu▸hrun
    rcases h with⟨r,w',htar,htake,hrest⟩|⟨b,ts,ty,k,v,w',htar,hinv,hrest⟩|⟨hn,fv,cap,f,args,htar,hinv,hlead,hFf,hcall⟩
    · have out:=fenced_out (P:=P) (w:=w) hb hroom hrun' hd (fun g hg=>by rw[htar]at hg;simp[Target.leads]at hg)
      obtain⟨e',w2,fr',h1,h2,h3,h4⟩:=q3q ds u w' {fr with defers:=[]++ds} cs hu rfl ht hf hk hb hroom hrest
      exact⟨e',w2,fr',h1,ComesIn.of_steps (.one out (step_collected (cs:=cs) hrun' hd htar htake)) h2,h3,h4⟩
    · have out:=fenced_out (P:=P) (w:=w) hb hroom hrun' hd (fun g hg=>by rw[htar]at hg;simp[Target.leads]at hg)
      obtain⟨e',w2,fr',h1,h2,h3,h4⟩:=q3q ds u w' {fr with defers:=ds} cs hu rfl ht hf hk hb hroom hrest
      exact⟨e',w2,fr',h1,ComesIn.of_steps (.one out (x5V (cs:=cs) hrun' hd htar hinv)) h2,h3,h4⟩
    · have out:=fenced_out (P:=P) hb hroom hrun' hd hlead
      have go:=step_defer (cs:=cs) hrun' hd htar hinv
      have room:F.room (({fr with defers:=ds}::cs).length+1+(n-1)):=Fence.room_enter hroom hn
      obtain⟨e,u',w',frX,hR,hsteps,hkX,hfX,hgo⟩:=hcall {fr with defers:=ds} cs hu room
      cases e with
      |outgrown=>exact⟨.outgrown,w',fr,hR,Outgrown.of_steps (.one go) hsteps,rfl,trivial⟩
      | returned v=>
        have back:(lone frX ({{fr with defers:=ds}with mode:=u'}::cs) w').fenced P F:=fenced_going (n:=n-1) (hfX▸hFf) room hgo
        have go2:=step_going_returned (c:={{fr with defers:=ds}with mode:=u'}) (cs:=cs) hkX hgo
        obtain⟨e',w2,fr',h1,h2,h3,h4⟩:=q3q ds (settle u') w' {{{fr with defers:=ds}with mode:=u'}with mode:=settle u'} cs rfl rfl ht hf hk hb hroom hR
        exact⟨e',w2,fr',h1,ComesIn.of_steps (.head out go (StepsIn.trans hsteps (.one back go2))) h2,h3,h4⟩
      | panicked chain=>
        have back:(lone frX ({{fr with defers:=ds}with mode:=u'}::cs) w').fenced P F:=fenced_going (n:=n-1) (hfX▸hFf) room hgo
        have go2:=step_going_panicked (c:={{fr with defers:=ds}with mode:=u'}) (cs:=cs) hgo
        obtain⟨e',w2,fr',h1,h2,h3,h4⟩:=q3q ds (raised u' chain) w' {{{fr with defers:=ds}with mode:=u'}with mode:=raised u' chain} cs rfl rfl ht hf hk hb hroom hR
        exact⟨e',w2,fr',h1,ComesIn.of_steps (.head out go (StepsIn.trans hsteps (.one back go2))) h2,h3,h4⟩
def bodyPostB(F:Fence)(n:Nat)(P:Program)(fn:Func)(R:Ending→World→Prop):Exit→Act→World→Prop
 | .normal,a,w=>q4I F n P fn a.tmps R a.defers .returning w
 | .ret,a,w=>q4I F n P fn a.tmps R a.defers .returning w
 | .panic chain,a,w=>q4I F n P fn a.tmps R a.defers (.panicking chain) w
 | .outgrown,_,w=>R .outgrown w
 |_,_,_=>False
theorem q5R{f:FuncId}{fn:Func}{c:Code}{args:Array Value}{w:World}{R:Ending→World→Prop}
    (hf:P.funcs[f]? =some fn) (hb:fn.body=some c) (hF:F.fn f)
    (h:c.wpIn F n P (bodyPostB F n P fn R) {tmps:=args++Array.replicate (fn.ntmps-args.size) undef,defers:=[]} w) (hro:F.round=none:=by rfl):CallsIn F n P f args w R:=by
  refine⟨hF,fun cs hr=> ?_⟩
  let b:Frame:={(default:Frame)with fn:=f,kind:=.normal,roundOf:=none}
  have henter:Frame.enter P f args .normal=b.atR {tmps:=args++Array.replicate (fn.ntmps-args.size) undef,defers:=[]} [.code c]:=by
    simp[Frame.enter,Frame.atR,hf,hb,b]
  obtain⟨e,a',w',hq,harr⟩:=h b [] cs hro.symm hF hr
  rw[←henter]at harr
  cases e with
  | normal=>
    obtain⟨e',w'',fr',hR,hs,hfn,hl⟩:=q3q a'.defers .returning w' {b.atR a' []with mode:=.returning} cs rfl rfl rfl hf rfl hF hr hq
    exact⟨e',w'',fr',hR,ComesIn.of_steps (StepsIn.trans harr (.one (fenced_calm (fr:=b.atR a' []) hF hr rfl) (stepR_end rfl))) hs,hfn,hl⟩
  | ret=>
    obtain⟨todo,hs₀⟩:=harr.1 rfl
    obtain⟨e',w'',fr',hR,hs,hfn,hl⟩:=q3q a'.defers .returning w' {b.atR a' todo with mode:=.returning} cs rfl rfl rfl hf rfl hF hr hq
    exact⟨e',w'',fr',hR,ComesIn.of_steps hs₀ hs,hfn,hl⟩
  | panic chain=>
    obtain⟨todo,hs₀⟩:=harr
    obtain⟨e',w'',fr',hR,hs,hfn,hl⟩:=q3q a'.defers (.panicking chain) w' {b.atR a' todo with mode:=.panicking chain} cs rfl rfl rfl hf rfl hF hr hq
    exact⟨e',w'',fr',hR,ComesIn.of_steps hs₀ hs,hfn,hl⟩
  |exit id=>exact hq.elim
  |goto l=>exact hq.elim
  |outgrown=>exact⟨.outgrown,w',b,hq,harr.resolve_left (by simp[b]),rfl,trivial⟩
end Go
