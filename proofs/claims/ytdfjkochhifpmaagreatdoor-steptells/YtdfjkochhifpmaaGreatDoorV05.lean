import Derived.Test.YtdfjkochhifpmaaGreatDoorV04
set_option linter.unusedSimpArgs false
set_option linter.unusedVariables false
namespace Go.Ax
section
variable{P:Program}{C:Ctx}{ih:Code→St→Res}{h h' g:Hp}
theorem x4j {st xt:TypeId}{s x v:AV}(ha:q0Z C st xt s x h=some (v,h'))(hnx:g.nx=h.nx)(hs:∀r∈q0z s,g.get r=h.get r)(hx:∀r∈q0z x,g.get r=h.get r):
    ∃g',q0Z C st xt s x g=some (v,g')∧Loc2 h h' g g' (q0z s):=by
  unfold q0Z at ha⊢
  split at ha
  case h_2=>cases ha
  rename_i e size isAgg zero zeroOk bytes comparable zv xi k hst hxt hk
  split at ha
  ·cases ha
  ·cases ha
  rename_i y hy hsrc
  rw[←z5r hx]at ha
  split at ha
  ·cases ha
  rename_i new hnew
  cases hc:(new.all q1f&&(Nat.ble y.bytes 1000000&&Nat.beq new.length (Nat.mul k y.size)))with
  |false=>rw[hc]at ha;cases ha
  |true=>
  rw[hc]at ha
  simp only[Y0V]at ha
  simp only[Y0V]
  split at ha
  · cases hk:Nat.beq k 0 with
    |true=>rw[hk]at ha;cases ha;exact⟨_,rfl,Y2a hnx hs⟩
    | false=>
      rw[hk]at ha
      simp only[Y1b]at ha⊢
      obtain⟨hb,he⟩:=q0i ha;cases he
      simp only[hb,Y0V,hnx]
      exact⟨_,rfl,Y2b hnx hs _⟩
  · rename_i r o len cap es ex
    have hmem:r∈q0z (.sl r o len cap es ex):=Y2d.2 rfl
    rw[←hs r hmem]at ha
    split at ha
    case h_2=>cases ha
    rename_i e' cs hg
    cases hc2:(Nat.beq es y.size&&(Nat.ble (Nat.add o (Nat.mul len es)) cs.length&&Nat.ble (Nat.add len k) 1000000))with
    |false=>rw[hc2]at ha;cases ha
    |true=>
    rw[hc2]at ha
    simp only[Y0V]at ha
    simp only[Y0V]
    cases hin:Nat.ble (Nat.add len k) cap with
    | true=>
      rw[hin]at ha
      obtain⟨hb,he⟩:=q0i ha;cases he
      simp only[Y0V,hb]
      exact⟨_,rfl,Y2c hnx hs hmem _⟩
    | false =>
      rw[hin]at ha
      simp only[Y1b]at ha⊢
      cases hz:y.zeroOk with
      |false=>rw[hz]at ha;cases ha
      | true=>
        rw[hz]at ha
        simp only[Y1k,Y1b]at ha⊢
        cases ex with
        | true=>
          simp only[Y0V]at ha⊢
          cases ha
          simp only[hnx]
          exact⟨_,rfl,Y2b hnx hs _⟩
        | false=>
          simp only[Y1b]at ha⊢
          cases ho:(Nat.beq o 0&&Nat.ble (Nat.mul len es) cs.length)with
          |false=>rw[ho]at ha;cases ha
          | true=>
            rw[ho]at ha
            obtain⟨hb,he⟩:=q0i ha
            cases he
            simp only[Y0V,hb,hnx]
            exact⟨_,rfl,Loc2.mk_putNew hnx hs hmem _ _⟩
  ·cases ha
theorem x2i{b:Builtin}{ts:List TypeId}{args:List AV}{v:AV}{rd wr:List Nat}(hf:(match b,args with
      | .len,x::_=>some (q0z x,[])
      | .append,x::y::_=>some (q0z x++q0z y,q0z x)
      | .copy,x::y::_=>some (q0z x++q0z y,q0z x)
      | .unsafeSliceData,_=>some ([],[])
      | .unsafeString,x::_=>some (q0z x,q0z x)
      | .delete,x::_=>some (q0z x,q0z x)
      | .complex,_=>some ([],[])
      | .real,_=>some ([],[])
      | .imag,_=>some ([],[])
      | .min,_=>some ([],[])
      | .max,_=>some ([],[])
      |_,_=>none:Option (List Nat×List Nat))=some (rd,wr))
    (ha:q4p C b ts args h=some (.val v h')) (hnx:g.nx=h.nx) (hg:∀r∈rd,g.get r=h.get r):
    ∃g',q4p C b ts args g=some (.val v g')∧Loc2 h h' g g' wr∧∀r∈wr,r∈rd:=by
  unfold q4p at ha⊢
  split at ha
  · cases hf
    rw[←x6A hg]at ha
    split at ha
    ·cases ha;exact⟨_,rfl,Y2a hnx (fun r hr=>by cases hr),fun r hr=>by cases hr⟩
    ·cases ha
  · cases hf
    split at ha
    · rename_i hv
      cases ha
      obtain⟨g',e1,e2⟩:=x4j hv hnx (fun r hr=>hg r (Y2e _ hr)) (fun r hr=>hg r (Y2f _ hr))
      simp only[e1]
      exact⟨_,rfl,e2,fun r hr=>Y2e _ hr⟩
    ·cases ha
  · cases hf
    split at ha
    · rename_i hv
      cases ha
      obtain⟨g',e1,e2⟩:=copyA_loc hv hnx (fun r hr=>hg r (Y2e _ hr)) (fun r hr=>hg r (Y2f _ hr))
      simp only[e1]
      exact⟨_,rfl,e2,fun r hr=>Y2e _ hr⟩
    ·cases ha
  · cases hf
    split at ha
    · rename_i hv
      cases ha
      obtain⟨g',e1,e2⟩:=x6u hv hnx hg
      simp only[e1]
      exact⟨_,rfl,e2,fun r hr=>hr⟩
    ·cases ha
  · cases hf
    cases ha
    exact⟨_,rfl,Y2a hnx (fun r hr=>by cases hr),fun r hr=>by cases hr⟩
  · cases hf
    cases ha
    exact⟨_,rfl,Y2a hnx (fun r hr=>by cases hr),fun r hr=>by cases hr⟩
  · cases hf
    cases ha
    exact⟨_,rfl,Y2a hnx (fun r hr=>by cases hr),fun r hr=>by cases hr⟩
  ·cases hf
  · cases hf
    cases ha
    exact⟨_,rfl,Y2a hnx (fun r hr=>by cases hr),fun r hr=>by cases hr⟩
  · cases hf
    rename_i r o len cap es ex
    cases hz:Nat.beq cap 0 with
    |true=>rw[hz]at ha;cases ha
    | false=>
      rw[hz]at ha;cases ha
      exact⟨_,rfl,Y2a hnx (fun r hr=>by cases hr),fun r hr=>by cases hr⟩
  · cases hf
    split at ha
    · cases ha
      exact⟨_,rfl,Y2a hnx (fun r hr=>by cases hr),fun r hr=>by cases hr⟩
    ·cases ha
  · cases hf
    rename_i t tu r n
    have hgr:g.get r=h.get r:=hg r Y0T
    split at ha
    case h_2=>cases ha
    rename_i hti hgh
    rw[←hgr]at hgh
    rw[hti,hgh]
    dsimp only
    split at ha
    case h_2=>cases ha
    split at ha
    case h_2=>cases ha
    obtain⟨hb,he⟩:=q0i ha
    rw[hb,Y0V]
    cases hz:Nat.beq n 0 with
    | true=>
      rw[hz]at he;cases he
      exact⟨_,rfl,Y2a hnx (fun q hq=>by rw[Y2d.1 hq];exact hgr),fun q hq=>hq⟩
    | false=>
      rw[hz]at he;cases he
      exact⟨_,rfl,Y2c hnx (fun q hq=>by rw[Y2d.1 hq];exact hgr) (Y2d.2 rfl) _,fun q hq=>hq⟩
  · cases hf
    obtain⟨hb,he⟩:=q0i ha;cases he
    simp only[hb,Y0V]
    exact⟨_,rfl,Y2a hnx (fun r hr=>by cases hr),fun r hr=>by cases hr⟩
  · cases hf
    obtain⟨hb,he⟩:=q0i ha;cases he
    simp only[hb,Y0V]
    exact⟨_,rfl,Y2a hnx (fun r hr=>by cases hr),fun r hr=>by cases hr⟩
  · cases hf
    obtain⟨hb,he⟩:=q0i ha;cases he
    simp only[hb,Y0V]
    exact⟨_,rfl,Y2a hnx (fun r hr=>by cases hr),fun r hr=>by cases hr⟩
  ·cases ha
theorem x2V{s s':St}{o:Oper}{v:AV}{rd wr:List Nat}(hf:fpOf C s o=some (rd,wr))(ho:opA P C ih s o=some (.val v h'))(hev:∀x∈o.op.operands,s.ev C x=s'.ev C x)(hnx:s'.h.nx=s.h.nx)(hg:∀r∈rd,s'.h.get r=s.h.get r):
    ∃g',opA P C ih s' o=some (.val v g')∧Loc2 s.h h' s'.h g' wr∧∀r∈wr,r∈rd:=by
  have e0:opA P C ih s' o=opA P C ih {s with h:=s'.h} o:=q7T rfl fun x hx=>by
    rw[←hev x hx];cases x<;>rfl
  rw[e0]
  have hev':∀x,({s with h:=s'.h}:St).ev C x=s.ev C x:=fun x=>by cases x<;>rfl
  have hall:∀l,allA C ({s with h:=s'.h}:St) l=allA C s l:=fun l=>q6B fun x _=>hev' x
  generalize s'.h=g at hnx hg hev' hall
  unfold fpOf at hf
  unfold opA at ho⊢
  have nil:∀{a:List Nat},∀r∈([]:List Nat),r∈a:=fun r hr=>by cases hr
  have nil':∀r∈([]:List Nat),g.get r=s.h.get r:=fun r hr=>by cases hr
  cases hop:o.op<;>simp only[hop,hev',hall]at ho hf⊢
  case load t a=>
    cases hf
    rw[z1H hg]
    obtain⟨y,e1,e2⟩:=q0M ho
    cases e2
    rw[e1]
    exact⟨_,rfl,Y2a hnx nil',nil⟩
  case store t a x=>
    cases hf
    obtain⟨y,e1,e2⟩:=q0M ho
    cases e2
    obtain⟨g',e3,e4⟩:=x3i e1 hnx hg
    rw[e3]
    exact⟨_,rfl,e4,fun r hr=>hr⟩
  case slice t x lo hi mx=>
    cases hf
    have hl:∀o:Option Operand,o.map (({s with h:=g}:St).ev C)=o.map (s.ev C):=fun o=>z3E fun y _=>hev' y
    simp only[hl]
    rw[x3o hg]
    obtain⟨y,e1,e2⟩:=q0M ho
    cases e2
    rw[e1]
    exact⟨_,rfl,Y2a hnx nil',nil⟩
  case lookup t x k ok=>
    cases hf
    rw[q9C hg]
    obtain⟨y,e1,e2⟩:=q0M ho
    cases e2
    rw[e1]
    exact⟨_,rfl,Y2a hnx nil',nil⟩
  case mapUpdate t x k y=>
    cases hf
    obtain⟨y',e1,e2⟩:=q0M ho
    cases e2
    obtain⟨g',e3,e4⟩:=z8F e1 hnx hg
    rw[e3]
    exact⟨_,rfl,e4,fun r hr=>hr⟩
  case call c=>
    cases hcal:c.callee with
    |value f=>simp only[hcal]at hf;cases hf
    |invoke r name=>simp only[hcal]at hf;cases hf
    | builtin b=>
      simp only[hcal]at ho hf⊢
      exact x2i hf ho hnx hg
  case range t x=>
    cases hf
    obtain⟨y,e1,e2⟩:=q0M ho
    cases e2
    obtain⟨g',e3,e4⟩:=x6l (g:=g) e1 hnx hg
    rw[e3]
    exact⟨_,rfl,e4,nil⟩
  case next x str=>
    cases str with
    |false=>cases hf
    |true=>
    cases hf
    rw[Y0V]at ho
    obtain⟨y,e1,e2⟩:=q0M ho
    cases e2
    obtain⟨g',e3,e4⟩:=nextA_loc (g:=g) e1 hnx hg
    simp only[Y0V]
    rw[e3]
    exact⟨_,rfl,e4,fun r hr=>hr⟩
  case entry x=>cases hf
  case mapEntry t x k=>
    cases hf
    obtain⟨y,e1,e2⟩:=q0M ho
    cases e2
    obtain⟨g',e3,e4⟩:=z9P (g:=g) e1 hnx hg
    rw[e3]
    exact⟨_,rfl,e4,fun r hr=>hr⟩
  case entryStore t x st y=>
    cases hf
    obtain⟨y',e1,e2⟩:=q0M ho
    cases e2
    obtain⟨g',e3,e4⟩:=z7F (g:=g) e1 hnx hg
    rw[e3]
    exact⟨_,rfl,e4,fun r hr=>hr⟩
  case convert a b x=>
    cases hf
    cases hsl:q3I (s.ev C x)with
    | true=>
      rw[hsl,Y0V]at ho
      simp only[Y0V]
      rw[convB_loc hg]
      obtain⟨y,e1,e2⟩:=q0M ho
      cases e2
      rw[e1]
      exact⟨_,rfl,Y2a hnx nil',nil⟩
    | false=>
      rw[hsl,Y1b]at ho
      simp only[Y1b]
      obtain⟨y,e1,e2⟩:=q0M ho
      cases e2
      rw[e1]
      exact⟨_,rfl,Y2a hnx nil',nil⟩
  case defer c=>
    split at ho
    · unfold x7U at ho
      split at ho<;>cases ho
    · unfold x7T at ho
      split at ho<;>cases ho
    ·cases ho
  case alloc t=>
    cases hf
    obtain⟨y,e1,e2⟩:=q0M ho
    cases e2
    obtain⟨g',e3,e4⟩:=alloc_loc (g:=g) e1 hnx
    rw[e3]
    exact⟨_,rfl,e4,nil⟩
  case box t x=>
    cases hf
    obtain⟨y,e1,e2⟩:=q0M ho
    cases e2
    obtain⟨g',e3,e4⟩:=box_loc (g:=g) e1 hnx
    rw[e3]
    exact⟨_,rfl,e4,nil⟩
  case buildSlice t n ps=>
    cases hf
    obtain⟨y,e1,e2⟩:=q0M ho
    cases e2
    obtain⟨g',e3,e4⟩:=z8c (g:=g) e1 hnx
    rw[e3]
    exact⟨_,rfl,e4,nil⟩
  case makeSlice t l c=>
    cases hf
    obtain⟨y,e1,e2⟩:=q0M ho
    cases e2
    obtain⟨g',e3,e4⟩:=z9R (g:=g) e1 hnx
    rw[e3]
    exact⟨_,rfl,e4,nil⟩
  case makeMap t r=>
    cases hf
    split at ho
    case h_2=>cases ho
    rename_i n0 ti hn0 hti
    split at ho
    case h_2=>cases ho
    cases ho
    simp only[hnx]
    exact⟨_,rfl,Y2b hnx nil' _,nil⟩
  case insert t x k y=>
    cases hf
    obtain⟨y',e1,e2⟩:=q0M ho
    cases e2
    obtain⟨g',e3,e4⟩:=z8F e1 hnx hg
    rw[e3]
    exact⟨_,rfl,e4,fun r hr=>hr⟩
  case nilCheck x=>
    cases hf
    split at ho<;>cases ho<;>exact⟨_,rfl,Y2a hnx nil',nil⟩
  case binOp op t x y z=>
    cases hf
    split at ho
    · split at ho
      ·split at ho<;>cases ho<;>exact⟨_,rfl,Y2a hnx nil',nil⟩
      ·split at ho<;>cases ho<;>exact⟨_,rfl,Y2a hnx nil',nil⟩
      ·cases ho
    · obtain⟨y,e1,e2⟩:=q0M ho
      cases e2
      rw[e1]
      exact⟨_,rfl,Y2a hnx nil',nil⟩
  case makeInterface t x=>
    cases hf
    split at ho
    case h_2=>cases ho
    split at ho
    ·cases ho
    cases ho
    exact⟨_,rfl,Y2a hnx nil',nil⟩
  case pick c a b=>
    cases hf
    split at ho
    case h_2=>cases ho
    cases ho
    exact⟨_,rfl,Y2a hnx nil',nil⟩
  case makeFunc f a b=>
    cases hf
    split at ho
    case h_2=>cases ho
    cases ho
    exact⟨_,rfl,Y2a hnx nil',nil⟩
  case extract x i=>
    cases hf
    split at ho
    case h_2=>cases ho
    obtain⟨y,e1,e2⟩:=q0M ho
    cases e2
    rw[e1]
    exact⟨_,rfl,Y2a hnx nil',nil⟩
  case move x=>cases hf;cases ho;exact⟨_,rfl,Y2a hnx nil',nil⟩
  case assign x=>cases hf;cases ho;exact⟨_,rfl,Y2a hnx nil',nil⟩
  all_goals first
    | (cases hf
       obtain⟨y,e1,e2⟩:=q0M ho
       cases e2
       rw[e1]
       exact⟨_,rfl,Y2a hnx nil',nil⟩)
    |(cases ho;done)
end
end Go.Ax
namespace Go.Ax
theorem q6F(k i:Nat):Nat.testBit (Nat.shiftLeft 1 k) i=decide (k=i):=by
 show Nat.testBit (1<<<k) i=_
 rw[Nat.one_shiftLeft,Nat.testBit_two_pow]
theorem z7a(x y i:Nat):Nat.testBit (Nat.lor x y) i=(Nat.testBit x i||Nat.testBit y i):=Nat.testBit_or x y i
theorem z4P{acc:List Nat}{i:Nat}:∀{es:List Edge},Nat.testBit (z2e acc es) i=true→∃e∈es,hard e=true∧(e.on=i∨∃m,acc[e.on]? =some m∧Nat.testBit m i=true)
  |[],h=>by simp[z2e]at h
  | e ::l,h=>by
    unfold z2e at h
    cases hh:hard e with
    | false=>
      rw[hh]at h
      obtain⟨e',h1,h2⟩:=z4P h
      exact⟨e',Y0U _ h1,h2⟩
    | true=>
      rw[hh]at h
      simp only[Y0V,z7a,q6F,Y2g,Y2h]at h
      rcases h with(h|h)|h
      ·exact⟨e,Y0T,hh,.inl h⟩
      · refine⟨e,Y0T,hh,.inr ?_⟩
        split at h
        ·rename_i m hm;exact⟨m,hm,h⟩
        ·simp at h
      · obtain⟨e',h1,h2⟩:=z4P h
        exact⟨e',Y0U _ h1,h2⟩
theorem z1F:∀(l:List Oper) (acc:List Nat),(∃rest,masks acc l=acc++rest∧rest.length=l.length)∧
    ∀i o,l[i]? =some o→(masks acc l)[acc.length+i]? =some (z2e ((masks acc l).take (acc.length+i)) o.after.toList)
  |[],acc=>⟨⟨[],by simp[masks],rfl⟩,fun i o h=>by simp at h⟩
  | o ::l,acc=>by
    obtain⟨⟨rest,h1,h2⟩,h3⟩:=z1F l (acc++[z2e acc o.after.toList])
    have e:masks acc (o::l)=masks (acc++[z2e acc o.after.toList]) l:=rfl
    refine⟨⟨z2e acc o.after.toList::rest,by rw[e,h1];simp,by simp[h2]⟩,fun i o' hi=> ?_⟩
    rw[e]
    cases i with
    | zero=>
      cases hi
      rw[h1]
      simp
    | succ i=>
      have:=h3 i o' hi
      simp only[Y0X,Y2i,Y2j]at this
      rw[show acc.length+(i+1)=acc.length+(0+1)+i by omega]
      exact this
theorem z4S{ms:List Nat}{j i:Nat}:q0E ms j i=true↔∃m,ms[j]? =some m∧Nat.testBit m i=true:=by
 unfold q0E
 split
 ·rename_i m h;exact⟨fun hb=>⟨m,h,hb⟩,fun⟨m',h',hb⟩=>by rw[h]at h';cases h';exact hb⟩
 ·rename_i h;exact⟨(fun hb=>by cases hb),fun⟨m',h',_⟩=>by rw[h]at h';cases h'⟩
def After(ops:Array Oper)(L:Nat→Prop)(j:Nat):Prop:=∀o,ops[j]? =some o→∀e∈o.after.toList,hard e=true→L e.on
theorem q9B{ops:Array Oper}{L:Nat→Prop}(hL:∀j,L j→After ops L j):∀(j i:Nat),After ops L j→q0E (masks [] ops.toList) j i=true→L i:=by
  intro j
  induction j using Nat.strongRecOn with
  | _ j ih=>
    intro i hj hm
    obtain⟨m,h1,h2⟩:=z4S.1 hm
    obtain⟨⟨rest,e1,e2⟩,e3⟩:=z1F ops.toList []
    have hlt:j<ops.toList.length:=by
      have:=(Y0m.1 h1).1
      rw[e1]at this;rw[List.nil_append]at this;omega
    have ho:ops.toList[j]? =some ops.toList[j]:=Y0n hlt
    have h3:=e3 j _ ho
    simp only[Y2j,Y0L]at h3
    rw[h1]at h3;cases h3
    obtain⟨e,he,hh,hc⟩:=z4P h2
    have hLe:L e.on:=hj _ (by simp) e he hh
    rcases hc with rfl|⟨m',hm',hb⟩
    ·exact hLe
    · obtain⟨hlt',hget⟩:=Y0m.1 hm'
      rw[Y1R]at hlt'
      refine ih e.on (by omega) i (hL _ hLe) (z4S.2 ⟨m',?_,hb⟩)
      rw[Y0k]at hm'
      split at hm'
      ·exact hm'
      ·cases hm'
theorem x5s{t:Nat}:∀{l:List Nat},t∈l→Nat.testBit (bits l) t=true
  |[],h=>by cases h
  | x::l,h=>by
    unfold bits
    rw[z7a,q6F]
    rcases Y2k.1 h with rfl|h
    ·simp
    ·rw[x5s h,Bool.or_true]
theorem q9e{t:Nat}:∀{l:List Operand},Operand.tmp t∈l→t∈z5h l
  |[],h=>by cases h
  | x ::l,h=>by
    rcases Y2k.1 h with e|h'
    ·subst e;exact Y0T
    · clear h
      cases x with
      |tmp u=>exact Y0U _ (q9e h')
      |const v=>exact(q9e h':t∈z5h l)
      |global g=>exact(q9e h':t∈z5h l)
      |func f=>exact(q9e h':t∈z5h l)
theorem z2D{a b t:Nat}(h:meets a b=false)(ha:Nat.testBit a t=true):Nat.testBit b t=false:=by
 unfold meets at h
 have h0:Nat.land a b=0:=by
  have:Nat.beq (Nat.land a b) 0=true:=by simpa using h
  exact Y0P this
 have h1:Nat.testBit (Nat.land a b) t=(Nat.testBit a t&&Nat.testBit b t):=Nat.testBit_and a b t
 rw[h0,ha,Nat.zero_testBit]at h1
 simpa using h1.symm
def PairP(m:Nat)(lk dt:Nat)(x:Nat×Nat×Nat):Prop:=(meets x.2.2 lk||(meets x.2.2 dt||meets dt x.2.1))=true→Nat.testBit m x.1=true
theorem z2B{m lk dt:Nat}:∀{l:List (Nat×Nat×Nat)},z8n m lk dt l=true→∀x∈l,PairP m lk dt x
  |[],_,x,hx=>by cases hx
  | (i, p,d)::l,h,x,hx=>by
    unfold z8n at h
    cases hc:(meets d lk||(meets d dt||meets dt p))with
    | false=>
      rw[hc]at h
      rcases Y2k.1 hx with rfl|hx
      ·intro h';rw[hc]at h';cases h'
      ·exact z2B h x hx
    | true=>
      rw[hc]at h
      simp only[Y0V]at h
      cases hb:Nat.testBit m i with
      |false=>rw[hb]at h;cases h
      | true=>
        rw[hb]at h
        rcases Y2k.1 hx with rfl|hx
        ·exact fun _=>hb
        ·exact z2B h x hx
theorem z0T{i:Nat}:∀{l:List Edge},z2v i l=true→∀e∈l,hard e=true→e.on<i
  |[],_,e,he,_=>by cases he
  | e ::l,h,e',he,hh=>by
    unfold z2v at h
    cases hc:hard e with
    | false=>
      rw[hc]at h
      rcases Y2k.1 he with rfl|he
      ·rw[hc]at hh;cases hh
      ·exact z0T h e' he hh
    | true=>
      rw[hc]at h
      simp only[Y0V]at h
      cases hb:Nat.blt e.on i with
      |false=>rw[hb]at h;cases h
      | true=>
        rw[hb]at h
        rcases Y2k.1 he with rfl|he
        ·exact Y0J hb
        ·exact z0T h e' he hh
theorem z2E{ops:List Oper}:∀(l:List Oper) (ms:List Nat) (i:Nat) (acc:List (Nat×Nat×Nat)),q9c ops l ms i acc=true→∀k o m,l[k]? =some o→ms[k]? =some m→
    z2v (i+k) o.after.toList=true∧(∀x∈acc,PairP m (looks ops o) (z0a o) x)∧∀k' o',k'<k→l[k']? =some o'→PairP m (looks ops o) (z0a o) (i+k',looks ops o',z0a o')
  |[],_,_,_,_,k,o,m,h,_=>by simp at h
  |o::l,[],_,_,h,_,_,_,_,_=>by cases h
  | o ::l,m::ms,i,acc,h,k,o',m',ho,hm=>by
    unfold q9c at h
    cases hc:(z2v i o.after.toList&&z8n m (looks ops o) (z0a o) acc)with
    |false=>rw[hc]at h;cases h
    | true=>
      rw[hc]at h
      simp only[Y0V]at h
      obtain⟨h1,h2⟩:=q0p hc
      cases k with
      | zero=>
        cases ho;cases hm
        exact⟨h1,z2B h2,fun k' o' hk=>by omega⟩
      | succ k=>
        obtain⟨g1,g2,g3⟩:=z2E l ms (i+1) _ h k o' m' ho hm
        refine⟨by rw[show i+(k+1)=i+1+k by omega];exact g1,fun x hx=>g2 x (Y0U _ hx),fun k' o'' hk hk'=> ?_⟩
        cases k' with
        |zero=>cases hk';exact g2 _ Y0T
        |succ k'=>rw[show i+(k'+1)=i+1+k' by omega];exact g3 k' o'' (by omega) hk'
structure Apart(ops:Array Oper)(p q:Oper):Prop where
 pq:∀t,p.dst=some t→(∀x∈q.op.operands,x≠ .tmp t)∧∀g w,q.guard=some (g,w)→∀y,ops[g]? =some y→y.dst≠some t
 qp:∀t,q.dst=some t→(∀x∈p.op.operands,x≠ .tmp t)∧∀g w,p.guard=some (g,w)→∀y,ops[g]? =some y→y.dst≠some t
 dd:∀t,p.dst=some t→q.dst≠some t
theorem x5c{ops:Array Oper}{q:Oper}{t:Nat}(h:Nat.testBit (looks ops.toList q) t=false):(∀x∈q.op.operands,x≠ .tmp t)∧∀g w,q.guard=some (g,w)→∀y,ops[g]? =some y→y.dst≠some t:=by
 have key:t∉z5h q.op.operands.toList++z9x ops.toList q:=fun hm=>by
  have:=x5s hm
  unfold looks at h
  rw[this]at h;cases h
 refine⟨fun x hx e=> ?_,fun g w hg y hy hd=> ?_⟩
 ·subst e
  exact key (Y2e _ (q9e (by simpa using hx)))
 ·refine key (Y2f _ ?_)
  have hy':ops.toList[g]? =some y:=by simpa using hy
  simp[z9x,hg,hy',hd]
theorem q6E{ops:Array Oper}(h:q9c ops.toList ops.toList (masks [] ops.toList) 0 []=true){i j:Nat}{p q:Oper}(hij:i<j)(hi:ops[i]? =some p)(hj:ops[j]? =some q):
    q0E (masks [] ops.toList) j i=true∨Apart ops p q:=by
  obtain⟨⟨rest,e1,e2⟩,e3⟩:=z1F ops.toList []
  have hj':ops.toList[j]? =some q:=by simpa using hj
  have hi':ops.toList[i]? =some p:=by simpa using hi
  have hm:=e3 j q hj'
  simp only[Y2j,Y0L]at hm
  obtain⟨_,_,g3⟩:=z2E _ _ _ _ h j q _ hj' hm
  have hp:=g3 i p hij hi'
  rw[Y0L]at hp
  unfold PairP at hp
  dsimp only at hp
  cases hc:(meets (z0a p) (looks ops.toList q)||(meets (z0a p) (z0a q)||meets (z0a q) (looks ops.toList p)))with
  |true=>exact .inl (z4S.2 ⟨_,hm,hp hc⟩)
  | false=>
    simp only[Y2l]at hc
    obtain⟨c1,c2,c3⟩:=hc
    have bit:∀(o:Oper) (t:Nat),o.dst=some t→Nat.testBit (z0a o) t=true:=fun o t ht=>by
      unfold z0a;rw[ht];dsimp only;rw[q6F];simp
    refine .inr ⟨fun t ht=>x5c (z2D c1 (bit p t ht)),fun t ht=>x5c (z2D c3 (bit q t ht)),fun t ht hq=> ?_⟩
    have:=z2D c2 (bit p t ht)
    rw[bit q t hq]at this;cases this
theorem z7o{ops:Array Oper}(h:q9c ops.toList ops.toList (masks [] ops.toList) 0 []=true){j:Nat}{q:Oper}(hj:ops[j]? =some q):∀e∈q.after.toList,hard e=true→e.on<j:=by
 obtain⟨⟨rest,e1,e2⟩,e3⟩:=z1F ops.toList []
 have hj':ops.toList[j]? =some q:=by simpa using hj
 have hm:=e3 j q hj'
 simp only[Y2j,Y0L]at hm
 obtain⟨g1,_,_⟩:=z2E _ _ _ _ h j q _ hj' hm
 rw[Y0L]at g1
 exact z0T g1
end Go.Ax
namespace Go.Ax
section ver
variable{α:Type}
open Classical in
noncomputable def ver(X:Nat→α)(U L:Nat→Prop):Nat→α
 |0=>X 0
 |k+1=>if L k∧U k then X (k+1)else ver X U L k
variable{X:Nat→α}{U L:Nat→Prop}
open Classical in
theorem z6g(k:Nat):ver X U L (k+1)=if L k∧U k then X (k+1)else ver X U L k:=rfl
theorem x7H{i:Nat}(hX:∀k,k<i→¬U k→X (k+1)=X k)(h1:∀j,j<i→U j→L j):∀k,(∀j,i≤j→j<k→U j→¬L j)→(k≤i→ver X U L k=X k)∧(i≤k→ver X U L k=X i)
  |0,_=>⟨fun _=>rfl,fun h=>by cases Nat.le_zero.1 h;rfl⟩
  | k +1,h2=>by
    obtain⟨g1,g2⟩:=x7H hX h1 k fun j a b=>h2 j a (by omega)
    have up:k+1≤i→ver X U L (k+1)=X (k+1):=fun hk=>by
      rw[z6g]
      by_cases hu:U k
      ·rw[Y0e ⟨h1 k (by omega) hu,hu⟩]
      ·rw[Y0c (fun h=>hu h.2),g1 (by omega),hX k (by omega) hu]
    refine⟨up,fun hk=> ?_⟩
    by_cases he:i=k+1
    ·subst he;exact up (Y0u _)
    ·rw[z6g,Y0c (fun h=>h2 k (by omega) (by omega) h.2 h.1),g2 (by omega)]
theorem z9k{L':Nat→Prop}:∀k,(∀j,j<k→U j→(L j↔L' j))→ver X U L k=ver X U L' k
  |0,_=>rfl
  | k +1,h=>by
    have ih:ver X U L k=ver X U L' k:=z9k k fun j hj=>h j (by omega)
    rw[z6g,z6g,ih]
    by_cases hu:U k
    · have:=h k (by omega) hu
      by_cases hl:L k
      ·rw[Y0e ⟨hl,hu⟩,Y0e ⟨this.1 hl,hu⟩]
      ·rw[Y0c (fun h=>hl h.1),Y0c (fun h=>hl (this.2 h.1))]
    ·rw[Y0c (fun h=>hu h.2),Y0c (fun h=>hu h.2)]
end ver
def FP.turns(f:FP)(r:Nat):Prop:=match f.wr with|some w=>r∈w|none=>True
def FP.sees(f:FP)(r:Nat):Prop:=match f.rd with|some w=>r∈w|none=>True
def FP.made(f:FP)(r:Nat):Prop:=f.nl≤r∧r<f.nh
theorem z8D{a b:List Nat}{r:Nat}(h1:r∈a)(h2:r∈b):overlap a b=true:=by
 unfold overlap
 rw[Y2m]
 exact⟨r,h1,by rw[Y2m];exact⟨r,h2,by rw[q9v];simp⟩⟩
theorem inR_of{l h r:Nat}(h1:l≤r)(h2:r<h):inR l h r=true:=by
 unfold inR
 rw[Y1x h1]
 simp only[Y0g]
 exact Y1x h2
variable{a b:FP}{r:Nat}
theorem z4U(h1:a.turns r)(h2:b.sees r)(hlt:r<a.nl):FP.hard a b=true:=by
  unfold FP.turns at h1
  unfold FP.sees at h2
  unfold FP.hard
  cases hb:b.rd with
  | none=>
    cases ha:a.wr with
    |none=>simp
    | some w=>
      rw[ha]at h1
      cases w with
      |nil=>cases h1
      |cons x l=>simp
  | some q=>
    rw[hb]at h2
    cases ha:a.wr with
    | none=>
      have:q.any (fun x=>Nat.blt x a.nl)=true:=Y2m.2 ⟨r,h2,Y1x hlt⟩
      simp[this]
    | some w=>
      rw[ha]at h1
      simp[z8D h1 h2]
theorem z0S{q:List Nat}(h1:a.made r)(hb:b.rd=some q)(h2:r∈q):FP.hard a b=true:=by
 unfold FP.hard
 have:q.any (inR a.nl a.nh)=true:=by rw[Y2m];exact⟨r,h2,inR_of h1.1 h1.2⟩
 simp[hb,this]
theorem z8I(h1:a.sees r)(h2:b.turns r):FP.hard a b=true:=by
  unfold FP.turns at h2
  unfold FP.sees at h1
  unfold FP.hard
  rw[Y2g]
  refine .inr ?_
  cases hb:b.wr with
  | none=>
    cases ha:a.rd with
    |none=>rfl
    | some q=>
      rw[ha]at h1
      cases q with
      |nil=>cases h1
      |cons x l=>rfl
  | some w=>
    rw[hb]at h2
    cases w with
    |nil=>cases h2
    | cons x l=>
      cases ha:a.rd with
      |none=>rfl
      | some q=>
        rw[ha]at h1
        exact z8D h2 h1
theorem z9V(h1:a.made r)(hb:b.wr=none):FP.hard a b=true:=by
  unfold FP.hard
  rw[Y2g]
  refine .inr ?_
  have hlt:Nat.blt a.nl a.nh=true:=Y1x (Nat.lt_of_le_of_lt h1.1 h1.2)
  rw[hb]
  cases ha:a.rd with
  |none=>rfl
  | some q=>cases q with
    |nil=>exact hlt
    |cons x l=>rfl
theorem z2C(q:List Nat):overlap q []=false:=by
 unfold overlap
 induction q with
 |nil=>rfl
 |cons x l ih=>simp
theorem z7W(h1:b.rd=some [])(h2:b.wr=some []):FP.hard a b=false:=by
 unfold FP.hard
 rw[h1,h2]
 cases a.wr with
 |none=>rfl
 |some w=>simp[z2C]
theorem z9U(h1:a.rd=some [])(h2:a.wr=some [])(h3:Nat.blt a.nl a.nh=false):FP.hard a b=false:=by
  have hle:a.nh≤a.nl:=by
    rcases Y1w a.nl a.nh with h|h
    · have:Nat.blt a.nl a.nh=true:=Y1x h
      rw[this]at h3;cases h3
    ·exact h
  have hr:∀q:List Nat,q.any (inR a.nl a.nh)=false:=fun q=>by
    rw[Y2n]
    intro x _
    unfold inR
    intro hx
    obtain⟨g1,g2⟩:=q0p hx
    have:=Y0J g1
    have:=Y0J g2
    omega
  unfold FP.hard
  rw[h1,h2,h3]
  have e0:∀q,overlap [] q=false:=fun _=>rfl
  cases hb:b.rd with
  | none=>
    cases hw:b.wr with
    |none=>rfl
    | some q=>cases q with
      |nil=>rfl
      |cons x l=>simp[z2C]
  | some q=>
    cases hw:b.wr with
    |none=>simp[e0,hr]
    | some q=>cases q with
      |nil=>simp[e0,hr]
      |cons x l=>simp[e0,hr,z2C]
theorem kindEq_eq{a b:IntKind}(h:q2s a b=true):a=b:=by
 unfold q2s at h
 split at h<;>first|rfl|cases h
theorem eqI_eq'{a b:Int}(h:eqI a b=true):a=b:=by
 unfold eqI at h
 split at h
 ·exact Y1K Int.ofNat (Y0P h)
 ·exact Y1K Int.negSucc (Y0P h)
 ·cases h
theorem eqS_eq:∀{a b:List Nat},eqS a b=true→a=b
  |[],[],_=>rfl
  | a::l,b::k,h=>by
    unfold eqS at h
    obtain⟨h1,h2⟩:=q0p h
    rw[Y0P h1,eqS_eq h2]
  |[],_::_,h=>by cases h
  |_::_,[],h=>by cases h
theorem rawEq_eq{a b:Value}(h:rawEq a b=true):a=b:=by
 unfold rawEq at h
 split at h
 ·rw[Y0P h]
 ·obtain⟨h1,h2⟩:=q0p h
  rw[Y0P h1,Y0P h2]
 ·cases h
mutual
theorem x7Q:(a b:AV)→eqV a b=true→a=b
  | a,b,h=>by
    unfold eqV at h
    split at h<;>first
      |rfl
      |(cases h;done)
      |skip
    ·rw[rawEq_eq h]
    ·exact Y1K AV.bool (by simpa using h)
    ·obtain⟨h1,h2⟩:=q0p h;rw[kindEq_eq h1,eqI_eq' h2]
    ·rw[eqS_eq h]
    ·rw[z9y _ _ h]
    · obtain⟨h1,h2⟩:=q0p h;obtain⟨h2,h3⟩:=q0p h2
      rw[Y0P h1,Y0P h2,z9y _ _ h3]
    · obtain⟨h1,h2⟩:=q0p h;obtain⟨h2,h3⟩:=q0p h2
      rw[Y0P h1,z2u _ _ h2,z2u _ _ h3]
    · obtain⟨h1,h2⟩:=q0p h
      rw[Y0P h1,x7Q _ _ h2]
    ·rw[z2u _ _ h]
    ·rw[z2u _ _ h]
    · obtain⟨h1,h2⟩:=q0p h
      rw[Y0P h1,Y0P h2]
    · obtain⟨h1,h⟩:=q0p h
      obtain⟨h2,h⟩:=q0p h
      obtain⟨h3,h⟩:=q0p h
      obtain⟨h4,h⟩:=q0p h
      obtain⟨h5,h⟩:=q0p h
      rw[Y0P h1,Y0P h2,Y0P h3,Y0P h4,Y0P h5,eq_of_beq h]
    ·rw[Y0P h]
theorem z2u:(a b:List AV)→eqVs a b=true→a=b
  |[],[],_=>rfl
  | a::l,b::k,h=>by
    unfold eqVs at h
    obtain⟨h1,h2⟩:=q0p h
    rw[x7Q _ _ h1,z2u _ _ h2]
  |[],_::_,h=>by simp[eqVs]at h
  |_::_,[],h=>by simp[eqVs]at h
theorem z9y:(a b:List (List AV))→x2N a b=true→a=b
  |[],[],_=>rfl
  | a::l,b::k,h=>by
    unfold x2N at h
    obtain⟨h1,h2⟩:=q0p h
    rw[z2u _ _ h1,z9y _ _ h2]
  |[],_::_,h=>by simp[x2N]at h
  |_::_,[],h=>by simp[x2N]at h
end
theorem z1f{a b:FP}(h1:b.rd=some [])(h2:b.wr=some []):FP.clash a b=false:=by unfold FP.clash;rw[z7W h1 h2];rfl
theorem z2l{a b:FP}(h1:a.rd=some [])(h2:a.wr=some [])(h3:Nat.blt a.nl a.nh=false):FP.clash a b=false:=by unfold FP.clash;rw[z9U h1 h2 h3];rfl
theorem clash_of{a b:FP}(h:FP.hard a b=true)(hs:FP.soft a b=false):FP.clash a b=true:=by unfold FP.clash;rw[h,hs];rfl
theorem soft_none{a b:FP}(ha:∀h,a.ld h=none)(hb:∀h,b.ld h=none):FP.soft a b=false:=by unfold FP.soft;rw[ha,hb];rfl
theorem q8Q{ms:List Nat}{b:FP}:∀{l:List FP},q0n ms b l=true→∀a∈l,FP.clash a b=true→q0E ms b.i a.i=true
  |[],_,a,ha,_=>by cases ha
  | x ::l,h,a,ha,hc=>by
    unfold q0n at h
    cases hx:FP.clash x b with
    | false=>
      rw[hx]at h
      rcases Y2k.1 ha with rfl|ha
      ·rw[hx]at hc;cases hc
      ·exact q8Q h a ha hc
    | true=>
      rw[hx]at h
      simp only[Y0V]at h
      cases hm:q0E ms b.i x.i with
      |false=>rw[hm]at h;cases h
      | true=>
        rw[hm]at h
        rcases Y2k.1 ha with rfl|ha
        ·exact hm
        ·exact q8Q h a ha hc
theorem x3M{ms:List Nat}{f:FP}{fps fps':List FP}(h:q0V ms f fps=some fps'):
  (∀a∈fps,FP.clash a f=true→q0E ms f.i a.i=true)∧(∀a∈fps,a∈fps')∧(f∈fps'∨∀b,FP.clash f b=false):=by
 unfold q0V at h
 split at h
 ·rename_i h1 h2
  refine⟨(fun a _ hc=>by rw[z1f h1 h2]at hc;cases hc),?_⟩
  cases hb:Nat.blt f.nl f.nh with
  |true=>rw[hb]at h;cases h;exact⟨fun a ha=>Y0U _ ha,.inl Y0T⟩
  |false=>rw[hb]at h;cases h;exact⟨fun a ha=>ha,.inr fun b=>z2l h1 h2 hb⟩
 ·obtain⟨hc,he⟩:=q0i h
  cases he
  exact⟨q8Q hc,fun a ha=>Y0U _ ha,.inl Y0T⟩
end Go.Ax
namespace Go.Ax
section
variable{P:Program}{F:Nat→Option Obj}{gl:Nat→AV}{eqT:Knob}{m m':Loc}
structure Core(P:Program)(F:Nat→Option Obj)(m:Loc)(h h':Hp)(w w':World)(m':Loc):Prop where
 le:Loc.le m m'
 rel:HRel P F m' h' w'
 same:SameOut w w'
 size:w.heap.size≤w'.heap.size
 old:∀b,b<w.heap.size→(∀r o z,h.get r=some o→o.live=true→m r≠some (b,z))→w'.heap[b]? =w.heap[b]?
 keep:∀r o' c,h'.get r=some o'→o'.live=true→m r=some c→∃o,h.get r=some o∧o.live=true
 mnew:∀r b z,m' r=some (b,z)→m r=none→(∃o,h'.get r=some o∧o.live=true)→w.heap.size≤b∨∃s o y,h.get s=some o∧o.live=true∧m s=some (b,y)
 fnew:∀b o,m'.fz b=some o→m.fz b=some o∨w.heap.size≤b∨∃s q y,h.get s=some q∧q.live=true∧m s=some (b,y)
theorem Core.trans{h h1 h2:Hp}{w w1 w2:World}{m1 m2:Loc}(a:Core P F m h h1 w w1 m1)(b:Core P F m1 h1 h2 w1 w2 m2):Core P F m h h2 w w2 m2 where
  le:=Loc.le_trans a.le b.le
  rel:=b.rel
  same:=a.same.trans b.same
  size:=Y0C a.size b.size
  old c hc hall:=by
    rw[b.old c (Y0D hc a.size) ?_,a.old c hc hall]
    intro r o z hg hl hm
    cases hr:m r with
    | some d=>
      obtain⟨o',hg',hl'⟩:=a.keep r o d hg hl hr
      have:=a.le r d hr
      rw[hm]at this;cases this
      exact hall r o' z hg' hl' hr
    | none=>
      rcases a.mnew r c z hm hr ⟨o,hg,hl⟩with h'|⟨s,o',y,hg',hl',hm'⟩
      ·omega
      ·exact hall s o' y hg' hl' hm'
  keep r o' c hg hl hm:=by
    obtain⟨o1,hg1,hl1⟩:=b.keep r o' c hg hl (a.le r c hm)
    exact a.keep r o1 c hg1 hl1 hm
  mnew r c z hc hn hlive:=by
    obtain⟨o,hg,hl⟩:=hlive
    cases h1r:m1 r with
    | some d=>
      have hd:=b.le r d h1r
      rw[hc]at hd;cases hd
      obtain⟨o1,hg1,hl1⟩:=b.keep r o _ hg hl h1r
      exact a.mnew r c z h1r hn ⟨o1,hg1,hl1⟩
    | none=>
      rcases b.mnew r c z hc h1r ⟨o,hg,hl⟩with h'|⟨s,o',y,hg',hl',hm'⟩
      ·exact .inl (Y0C a.size h')
      · cases hs:m s with
        | some d=>
          obtain⟨o2,hg2,hl2⟩:=a.keep s o' d hg' hl' hs
          have:=a.le s d hs
          rw[hm']at this;cases this
          exact .inr ⟨s,o2,y,hg2,hl2,hs⟩
        |none=>exact a.mnew s c y hm' hs ⟨o',hg',hl'⟩
  fnew c x h:=by
    rcases b.fnew c x h with h1|h1|⟨s,q,y,hg,hl,hm⟩
    ·exact a.fnew c x h1
    ·exact .inr (.inl (Y0C a.size h1))
    · cases hs:m s with
      | some d=>
        obtain⟨o2,hg2,hl2⟩:=a.keep s q d hg hl hs
        have:=a.le s d hs
        rw[hm]at this;cases this
        exact .inr (.inr ⟨s,o2,y,hg2,hl2,hs⟩)
      | none=>
        rcases a.mnew s c y hm hs ⟨q,hg,hl⟩with h2|⟨s',q',y',hg',hl',hm'⟩
        ·exact .inr (.inl h2)
        ·exact .inr (.inr ⟨s',q',y',hg',hl',hm'⟩)
theorem Core.of_part{g g'' gi g':Hp}{w w':World}(hr:HRel P F m g w)(hs:Step P F m gi g' w w' m')(hwi:∀r,gi.nx≤r→gi.get r=none)
    (hA:∀r,r<gi.nx→m r≠none→gi.get r=g.get r) (hB:∀r,r<g'.nx→m' r≠none→g'.get r=g''.get r) (hC:∀r,g'.nx≤r→g''.get r=g.get r)
    (hwf:∀r,g''.nx≤r→g''.get r=none):Core P F m g g'' w w' m':=by
  have lt_i:∀{r o},gi.get r=some o→r<gi.nx:=fun{r o} h=>by
    rcases Y1w r gi.nx with h'|h'
    ·exact h'
    ·rw[hwi r h']at h;cases h
  have up:∀{r o c},gi.get r=some o→m r=some c→g.get r=some o:=fun{r o c} h hm=>by
    rw[←hA r (lt_i h) (by rw[hm];exact nofun)];exact h
  have old_m:∀{r c},g'.nx≤r→m' r=some c→m r=some c:=fun{r c} h hm=>by
    cases hn:m r with
    |none=>have:=(hs.new r c hm hn).2;omega
    |some d=>have:=hs.le r d hn;rw[hm]at this;cases this;rfl
  have down:∀{r o c},r<g'.nx→g''.get r=some o→m' r=some c→g'.get r=some o:=fun{r o c} h hg hm=>by
    rw[hB r h (by rw[hm];exact nofun)];exact hg
  refine⟨hs.le,⟨?_,?_,?_,hs.rel.frz,hwf⟩,hs.same,hs.size,?_,?_,?_,fun b o hb=>(hs.fnew b o hb).imp_right fun hb=>hb.imp_right fun⟨s,q,y,hg,hl,hm⟩=>⟨s,q,y,up hg hm,hl,hm⟩⟩
  · intro r o b z hg hm
    rcases Y1w r g'.nx with h|h
    ·exact hs.rel.obj r o b z (down h hg hm) hm
    · have hm0:=old_m h hm
      rw[hC r h]at hg
      have h1:=hr.obj r o b z hg hm0
      by_cases hl:o.live=true
      · have hb:=hr.lt hg hl hm0
        rw[hs.old b hb fun r' o' z' hg' hl' hm'=> ?_]
        ·exact h1.mono hs.le
        · have:=hr.inj r' r o' o b z' z (up hg' hm') hl' hg hl hm' hm0
          have h2:=lt_i hg'
          have h3:=hs.nx
          omega
      ·cases o<;>first|trivial|exact absurd rfl hl
  · intro r s o q b y z hg hl hg' hl' hm hm2
    have cross:∀{r s o q y z},g'.nx≤r→s<g'.nx→g''.get r=some o→o.live=true→g''.get s=some q→q.live=true→m' r=some (b,y)→m' s=some (b,z)→False:=by
      intro r s o q y z h1 h2 hg hl hg' hl' hm hm2
      have hm0:=old_m h1 hm
      rw[hC r h1]at hg
      have hgs:=down h2 hg' hm2
      have hb:=hr.lt hg hl hm0
      have h3:=hs.nx
      cases hn:m s with
      | some d=>
        obtain⟨o1,g1,l1⟩:=hs.keep s q d hgs hl' hn
        have:=hs.le s d hn
        rw[hm2]at this;cases this
        have:=hr.inj s r o1 o b z y (up g1 hn) l1 hg hl hn hm0
        omega
      | none=>
        rcases hs.mnew s b z hm2 hn ⟨q,hgs,hl'⟩with h'|⟨p,o1,y1,g1,l1,m1⟩
        ·omega
        · have:=hr.inj p r o1 o b y1 y (up g1 m1) l1 hg hl m1 hm0
          have:=lt_i g1
          omega
    rcases Y1w r g'.nx with h|h<;>rcases Y1w s g'.nx with h2|h2
    ·exact hs.rel.inj r s o q b y z (down h hg hm) hl (down h2 hg' hm2) hl' hm hm2
    ·exact(cross h2 h hg' hl' hg hl hm2 hm).elim
    ·exact(cross h h2 hg hl hg' hl' hm hm2).elim
    · rw[hC r h]at hg
      rw[hC s h2]at hg'
      exact hr.inj r s o q b y z hg hl hg' hl' (old_m h hm) (old_m h2 hm2)
  · intro r o b z hg hl hm
    rcases Y1w r g'.nx with h|h
    ·exact hs.rel.out r o b z (down h hg hm) hl hm
    · rw [hC r h] at hg
      have hb:=hr.lt hg hl (old_m h hm)
      obtain⟨h1,h2⟩:=hr.out r o b z hg hl (old_m h hm)
      refine⟨h1,?_⟩
      cases hf:m'.fz b with
      |none=>rfl
      | some x => rcases hs.fnew b x hf with h3|h3|⟨s,q,y,hgs,hls,hms⟩
                  ·rw[h2]at h3;cases h3
                  ·omega
                  · have h4:=hr.inj s r q o b y z (up hgs hms) hls hg hl hms (old_m h hm)
                    have:=lt_i hgs
                    have:=hs.nx
                    omega
  · intro b hb hall
    exact hs.old b hb fun r o z hg hl hm=>hall r o z (up hg hm) hl hm
  · intro r o' c hg hl hm
    rcases Y1w r g'.nx with h|h
    · obtain⟨o,g1,l1⟩:=hs.keep r o' c (down h hg (hs.le r c hm)) hl hm
      exact⟨o,up g1 hm,l1⟩
    ·rw[hC r h]at hg;exact⟨o',hg,hl⟩
  · intro r b z hm hn hlive
    obtain⟨o,hg,hl⟩:=hlive
    have hlt:=(hs.new r _ hm hn).2
    rcases hs.mnew r b z hm hn ⟨o,down hlt hg hm,hl⟩with h'|⟨p,o1,y1,g1,l1,m1⟩
    ·exact .inl h'
    ·exact .inr ⟨p,o1,y1,up g1 m1,l1,m1⟩
inductive AtS(P:Program)(C:Ctx)(ih:Code→St→Res)(ops:Array Oper)(s s1:St)(f:FP)(i:Nat)(o:Oper):Prop
 |skip (hw:q6u ops.toList s o=some false) (hp:putD s o.dst (.tup []) s.h=some s1) (hf:f={i:=i,rd:=some [],wr:=some [],nl:=s.h.nx,nh:=s.h.nx,ld:=fun _=>none,h0:=s.h,h1:=s.h})
 |go (v:AV) (h:Hp) (hw:q6u ops.toList s o=some true) (ho:opA P C ih {s with h:={s.h with lo:=s.h.nx}} o=some (.val v h)) (hp:putD s o.dst v {h with lo:=bif Nat.ble s.h.lo h.lo then s.h.lo else h.lo}=some s1) (hf:f=fpAt C s o i h)
theorem fpAt_i{C:Ctx}{s:St}{o:Oper}{i:Nat}{h:Hp}:(fpAt C s o i h).i=i:=by unfold fpAt;split<;>rfl
theorem AtS.i_eq{C:Ctx}{ih:Code→St→Res}{ops:Array Oper}{s s1:St}{f:FP}{i:Nat}{o:Oper}(h:AtS P C ih ops s s1 f i o):f.i=i:=by
 cases h with
 |skip _ _ hf=>rw[hf]
 |go v h _ _ _ hf=>rw[hf];exact fpAt_i
theorem canon{C:Ctx}{ih:Code→St→Res}{ops:Array Oper}{ms:List Nat}:∀(l:List Oper) (i:Nat) (fps:List FP) (s:St) (e:Ex) (s':St),ops.toList.drop i=l→q7g P C ih ops.toList ms l i fps s=some (e,s')→
    ∃ (S:Nat→St) (fp:Nat→FP),S i=s∧S (i+l.length)=s'∧e= .normal∧(∀j o,i≤j→ops[j]? =some o→AtS P C ih ops (S j) (S (j+1)) (fp j) j o)∧
      (∀a∈fps,∀j,i≤j→j<i+l.length→FP.clash a (fp j)=true→q0E ms j a.i=true)∧(∀j k,i≤j→j<k→k<i+l.length→FP.clash (fp j) (fp k)=true→q0E ms k j=true)
  | [],i,fps,s,e,s',hd,h=>by
    cases h
    refine⟨fun _=>s,fun _=>⟨0,none,none,0,0,fun _=>none,s.h,s.h⟩,rfl,rfl,rfl,fun j o hj ho=> ?_,fun a _ j h1 h2=>by simp at h2;omega,fun j k h1 h2 h3=>by simp at h3;omega⟩
    have hn:ops.toList.length≤i:=by simpa using hd
    have:=(Y0s.1 ho).1
    simp at hn
    omega
  | o :: l, i,fps,s,e,s',hd,h=>by
    obtain⟨ho,hd'⟩:=q9d hd
    have ho':ops[i]? =some o:=by simpa using ho
    have key:∃f s1 fps',q7g P C ih ops.toList ms l (i+1) fps' s1=some (e,s')∧AtS P C ih ops s s1 f i o∧(∀a∈fps,FP.clash a f=true→q0E ms i a.i=true)∧(∀a∈fps,a∈fps')∧(f∈fps'∨∀b,FP.clash f b=false):=by
      unfold q7g at h
      split at h
      ·cases h
      · rename_i hw
        split at h
        case h_2=>cases h
        rename_i s1 hp
        refine⟨_,s1,fps,h,.skip hw hp rfl,fun a _ hc=> ?_,fun a ha=>ha,.inr fun b=> ?_⟩
        ·rw[z1f rfl rfl]at hc;cases hc
        · exact z2l rfl rfl (by
            cases hb:Nat.blt s.h.nx s.h.nx with
            |false=>rfl
            |true=>have:=Y0J hb;omega)
      · rename_i hw
        split at h
        case h_2=>cases h
        rename_i v h1 hop1
        split at h
        case h_2=>cases h
        rename_i fps' hfp
        split at h
        case h_2=>cases h
        rename_i s1 hp
        obtain⟨g1,g2,g3⟩:=x3M hfp
        exact⟨_,s1,fps',h,.go v h1 hw hop1 hp rfl,(fun a ha hc=>by have:=g1 a ha hc;rw[fpAt_i]at this;exact this),g2,g3⟩
    obtain⟨f,s1,fps',h1,h2,h3,h4,h5⟩:=key
    obtain⟨S,fp,q1,q2,q3,q4,q5,q6⟩:=canon l (i+1) fps' s1 e s' hd' h1
    refine⟨fun j=>if j=i then s else S j,fun j=>if j=i then f else fp j,Y0e rfl,?_,q3,fun j o' hj ho2=> ?_,fun a ha j h6 h7 hc=> ?_,fun j k h6 h7 h8 hc=> ?_⟩
    · dsimp only
      rw[Y0c (by simp),Y2i,show i+(l.length+1)=i+1+l.length by omega];exact q2
    · dsimp only
      by_cases he:j=i
      · subst he
        rw[Y0e rfl,Y0e rfl,Y0c (by omega),q1]
        rw[ho']at ho2;cases ho2
        exact h2
      · rw[Y0c he,Y0c he,Y0c (by omega)]
        exact q4 j o' (by omega) ho2
    · dsimp only at hc
      rw[Y2i]at h7
      by_cases he:j=i
      ·rw[Y0e he]at hc;rw[he];exact h3 a ha hc
      ·rw[Y0c he]at hc;exact q5 a (h4 a ha) j (by omega) (by omega) hc
    · dsimp only at hc
      rw[Y2i]at h8
      rw[Y0c (show¬k=i by omega)]at hc
      by_cases he:j=i
      · rw[Y0e he]at hc
        rcases h5 with h5|h5
        · have:=q5 f h5 k (by omega) (by omega) hc
          rw[h2.i_eq]at this
          rw[he];exact this
        ·rw[h5]at hc;cases hc
      · rw[Y0c he]at hc
        exact q6 j k (by omega) h7 (by omega) hc
end
end Go.Ax
namespace Go.Ax
section
variable{P:Program}{F:Nat→Option Obj}{gl:Nat→AV}{eqT:Knob}
def WF(h:Hp):Prop:=∀r,h.nx≤r→h.get r=none
structure Leaves(s s1:St)(f:FP)(o:Oper):Prop where
 nx:s.h.nx≤s1.h.nx
 nl:f.nl=s.h.nx
 nh:f.nh=s1.h.nx
 wf:WF s.h→WF s1.h
 frame:WF s.h→∀r,¬f.made r→¬(f.turns r∧r<s.h.nx)→s1.h.get r=s.h.get r
 n:s1.n=s.n
 rd:s1.rd=s.rd
 ds:s1.ds=s.ds
 tm:∀t,o.dst≠some t→tget s1.tm t=tget s.tm t
 any:f.rd=none→∀r,f.turns r→f.wr=none
 sees:∀r,f.turns r→f.sees r
 le:HpLe s.h s1.h
 ld:(∀h,f.ld h=none)∨∀r,¬f.turns r∧¬f.made r
 h0:f.h0=s.h
 h1:∀r,f.h1.get r=s1.h.get r
theorem x1k{C:Ctx}{s:St}{o:Oper}(hn:∀t a,o.op≠ .load t a)(hn2:∀t x k ok,o.op≠ .lookup t x k ok)(h:Hp):ldOf C s o h=none:=by
 unfold ldOf
 cases hop:o.op<;>first
  |rfl
  |exact absurd hop (hn _ _)
  |exact absurd hop (hn2 _ _ _ _)
theorem x8e{s s':St}{d:Option Nat}{v:AV}{h:Hp}(hp:putD s d v h=some s'):∀t,d≠some t→tget s'.tm t=tget s.tm t:=by
 unfold putD at hp
 intro t ht
 split at hp
 ·cases hp;rfl
 ·rename_i d
  obtain⟨_,rfl⟩:=q0i hp
  show tget (s.tm.set d v) t=_
  rw[q4o,Y0c (fun e=>ht (by rw[e]))]
theorem putD_at{s s':St}{d:Nat}{v:AV}{h:Hp}(hp:putD s (some d) v h=some s'):tget s'.tm d=v∧d<s.n:=by
 unfold putD at hp
 dsimp only at hp
 obtain⟨hd,rfl⟩:=q0i hp
 refine⟨?_,Y0J hd⟩
 show tget (s.tm.set d v) d=_
 rw[q4o,Y0e rfl]
theorem x1o{C:Ctx}{s:St}{g:Hp}{o:Oper}:fpOf C {s with h:=g} o=fpOf C s o:=by
 have hev:∀x,({s with h:=g}:St).ev C x=s.ev C x:=fun x=>by cases x<;>rfl
 have hall:∀l,allA C ({s with h:=g}:St) l=allA C s l:=fun l=>q6B fun x _=>hev x
 unfold fpOf
 simp only[hev,hall]
theorem AtS.leaves(hP:POk P F gl eqT){ih:Code→St→Res}(hih:Sound P F ih){ops:Array Oper}{s s1:St}{f:FP}{i:Nat}{o:Oper}(h:AtS P (Ctx.of P gl eqT) ih ops s s1 f i o):Leaves s s1 f o:=by
  cases h with
  | skip hw hp hf=>
    obtain⟨p1,p2,p3,p4⟩:=x2T hp
    subst hf
    refine⟨by rw[p1];exact Y0u _,rfl,by rw[p1],fun h=>by rw[p1];exact h,fun _ r _ _=>by rw[p1],p3,p2,p4,x8e hp,(fun h=>by cases h),fun r h=> ?_,by rw[p1];exact .refl _,.inl fun _=>rfl,rfl,fun r=>by rw[p1]⟩
    exact h
  | go v h' hw ho hp hf=>
    obtain⟨p1,p2,p3,p4⟩:=x2T hp
    obtain⟨v',h2,he,g1,_,_⟩:=x2U hP hih ho (x7M ho nofun)
    cases he
    have hnx:s.h.nx≤h'.nx:=g1.nx
    have hwf:WF s.h→WF h':=g1.wf
    have e1:s1.h.nx=h'.nx:=by rw[p1]
    have e2:∀r,s1.h.get r=h'.get r:=fun r=>by rw[p1];rfl
    have base :(WF s.h→∀r,¬f.made r→¬(f.turns r∧r<s.h.nx)→s1.h.get r=s.h.get r)∧f.nl=s.h.nx∧f.nh=s1.h.nx∧(f.rd=none→∀r,f.turns r→f.wr=none)∧(∀r,f.turns r→f.sees r):=by
      subst hf
      have old:WF s.h→∀r,¬(s.h.nx≤r∧r<h'.nx)→s.h.nx≤r→h'.get r=s.h.get r:=fun hw r h1 h2=>by
        rw[hwf hw r (by omega),hw r h2]
      unfold fpAt
      split
      · rename_i rd wr hfp
        obtain⟨g',q1,q2,q3⟩:=x2V (s:={s with h:={s.h with lo:=s.h.nx}}) (s':={s with h:={s.h with lo:=s.h.nx}}) (rd:=rd) (wr:=wr) (by
          rw[←hfp];exact x1o) ho (fun _ _=>rfl) rfl (fun _ _=>rfl)
        refine⟨fun hw r h1 h2=> ?_,rfl,e1.symm,(fun h=>by cases h),fun r h=>q3 r h⟩
        rw[e2]
        have h1:¬(s.h.nx≤r∧r<h'.nx):=fun hh=>h1 hh
        rcases Y1w r s.h.nx with hlt|hge
        ·exact(q2.out r (fun hm=>h2 ⟨hm,hlt⟩) h1).2
        ·exact old hw r h1 hge
      · refine⟨fun hw r h1 h2=> ?_,rfl,e1.symm,fun _ r h=> ?_,fun r _=>trivial⟩
        · rw [e2]
          have h1:¬(s.h.nx≤r∧r<h'.nx):=fun hh=>h1 hh
          rcases Y1w r s.h.nx with hlt|hge
          · cases hb:Nat.ble s.h.nx h'.lo with
            |true=>exact g1.same r hlt (Y0D hlt (Y0J hb))
            | false=>
              refine absurd ⟨?_,hlt⟩ h2
              unfold FP.turns
              rw[hb];trivial
          ·exact old hw r h1 hge
        · unfold FP.turns at h
          dsimp only at h⊢
          cases hb:Nat.ble s.h.nx h'.lo with
          |true=>rw[hb]at h;simp at h
          |false=>rfl
    have b0:f.h0=s.h:=by subst hf;unfold fpAt;split<;>rfl
    have b1:f.h1=h':=by subst hf;unfold fpAt;split<;>rfl
    have bl:(∀h,f.ld h=none)∨∀r,¬f.turns r∧¬f.made r:=by
      by_cases hld:∃t a,o.op= .load t a
      · obtain⟨t,a,hop⟩:=hld
        refine .inr fun r=> ?_
        have h2:h'={s.h with lo:=s.h.nx}:=by
          unfold opA at ho
          rw[hop]at ho
          dsimp only at ho
          obtain⟨y,_,h3⟩:=q0M ho
          cases h3;rfl
        have h4:fpOf (Ctx.of P gl eqT) s o=some (q0z (s.ev (Ctx.of P gl eqT) a),[]):=by unfold fpOf;rw[hop]
        subst hf
        unfold fpAt
        rw[h4,h2]
        exact⟨nofun,fun h=>by have h5:=h.1;have h6:=h.2;dsimp only at h5 h6;omega⟩
      by_cases hlk:∃t a k ok,o.op= .lookup t a k ok
      · obtain⟨t,a,k,ok,hop⟩:=hlk
        refine .inr fun r=> ?_
        have h2:h'={s.h with lo:=s.h.nx}:=by
          unfold opA at ho
          rw[hop]at ho
          dsimp only at ho
          obtain⟨y,_,h3⟩:=q0M ho
          cases h3;rfl
        have h4:fpOf (Ctx.of P gl eqT) s o=some (q0z (s.ev (Ctx.of P gl eqT) a),[]):=by unfold fpOf;rw[hop]
        subst hf
        unfold fpAt
        rw[h4,h2]
        exact⟨nofun,fun h=>by have h5:=h.1;have h6:=h.2;dsimp only at h5 h6;omega⟩
      · refine .inl fun h=> ?_
        subst hf
        have hn:∀t a,o.op≠ .load t a:=fun t a e=>hld ⟨t,a,e⟩
        have hn2:∀t x k ok,o.op≠ .lookup t x k ok:=fun t x k ok e=>hlk ⟨t,x,k,ok,e⟩
        unfold fpAt
        split
        ·exact x1k hn hn2 h
        ·rfl
    refine⟨by rw[e1];exact hnx,base.2.1,base.2.2.1,fun h r hr=>by rw[e2];exact hwf h r (by rw[←e1];exact hr),base.1,p3,p2,p4,x8e hp,base.2.2.2.1,base.2.2.2.2,?_,bl,b0,fun r=>by rw[b1,e2]⟩
    refine⟨by rw[e1];exact hnx,?_,fun r h1 h2=> ?_,fun h r hr=>by rw[e2];exact hwf h r (by rw[←e1];exact hr)⟩
    · rw[p1]
      show(bif Nat.ble s.h.lo h'.lo then s.h.lo else h'.lo)≤s.h.lo
      cases hb:Nat.ble s.h.lo h'.lo with
      |true=>exact Y0u _
      | false=>
        simp only[Y1b]
        rcases Y1w h'.lo s.h.lo with h3|h3
        ·omega
        ·rw[Y1x h3]at hb;cases hb
    · rw[e2]
      refine g1.same r h1 ?_
      rw[p1]at h2
      have h2:r<(bif Nat.ble s.h.lo h'.lo then s.h.lo else h'.lo):=h2
      cases hb:Nat.ble s.h.lo h'.lo with
      |true=>rw[hb]at h2;have:=Y0J hb;simp only[Y0V]at h2;omega
      |false=>rw[hb]at h2;exact h2
end
end Go.Ax
namespace Go.Ax
noncomputable def HV(S:Nat→St)(fp:Nat→FP)(N:Nat)(L:Nat→Prop)(r:Nat):Option AObj:=
 ver (fun k=>(S k).h.get r) (fun j=>(fp j).made r∨((fp j).turns r∧r<(S j).h.nx)) L N
noncomputable def TV(S:Nat→St)(ops:Array Oper)(L:Nat→Prop)(t:Nat):AV:=
 ver (fun k=>tget (S k).tm t) (fun j=>∃o,ops[j]? =some o∧o.dst=some t) L ops.size
noncomputable def HLof(S:Nat→St)(fp:Nat→FP)(N:Nat)(L:Nat→Prop):Hp:=
 {nx:=(S N).h.nx,m:=trOf (fun r=>HV S fp N L r) (S N).h.nx .e,lo:=0}
theorem x4L{α:Type}(f:Nat→Option α)(k i:Nat):(trOf f k .e).get i=if i<k then f i else none:=by
 rw[z3u,Y0a]
 split
 ·cases f i<;>rfl
 ·rfl
section
variable{P:Program}{F:Nat→Option Obj}{gl:Nat→AV}{eqT:Knob}
structure Reg(P:Program)(F:Nat→Option Obj)(gl:Nat→AV)(eqT:Knob)(ih:Code→St→Res)(ops:Array Oper)(S:Nat→St)(fp:Nat→FP)(m0:Loc)(w0:World):Prop where
 hP:POk P F gl eqT
 hih:Sound P F ih
 hat:∀j o,ops[j]? =some o→AtS P (Ctx.of P gl eqT) ih ops (S j) (S (j+1)) (fp j) j o
 hcl:∀j k,j<k→k<ops.size→FP.clash (fp j) (fp k)=true→q0E (masks [] ops.toList) k j=true
 hok:q9c ops.toList ops.toList (masks [] ops.toList) 0 []=true
 rel:HRel P F m0 (S 0).h w0
 free:Free m0 (S 0).h (S ops.size).h
variable{ih:Code→St→Res}{ops:Array Oper}{S:Nat→St}{fp:Nat→FP}{m0:Loc}{w0:World}
theorem Reg.op(_:Reg P F gl eqT ih ops S fp m0 w0){j:Nat}(hj:j<ops.size):∃o,ops[j]? =some o:=⟨ops[j],Y0M hj⟩
theorem Reg.lv(R:Reg P F gl eqT ih ops S fp m0 w0){j:Nat}{o:Oper}(ho:ops[j]? =some o):Leaves (S j) (S (j+1)) (fp j) o:=(R.hat j o ho).leaves R.hP R.hih
theorem Reg.nx(R:Reg P F gl eqT ih ops S fp m0 w0){i:Nat}:∀j,i≤j→j≤ops.size→(S i).h.nx≤(S j).h.nx
  |0,h,_=>by cases Nat.le_zero.1 h;exact Y0u _
  | j +1,h,hj=>by
    by_cases he:i=j+1
    ·subst he;exact Y0u _
    · obtain⟨o,ho⟩:=R.op (show j<ops.size by omega)
      exact Y0C (R.nx j (by omega) (by omega)) (R.lv ho).nx
theorem Reg.wf(R:Reg P F gl eqT ih ops S fp m0 w0):∀j,j≤ops.size→WF (S j).h
  |0,_=>R.rel.wf
  | j+1,hj=>by
    obtain⟨o,ho⟩:=R.op (show j<ops.size by omega)
    exact(R.lv ho).wf (R.wf j (by omega))
theorem Reg.frame(R:Reg P F gl eqT ih ops S fp m0 w0){j r:Nat}(hj:j<ops.size)(h:¬((fp j).made r∨((fp j).turns r∧r<(S j).h.nx))):(S (j+1)).h.get r=(S j).h.get r:=by
 obtain⟨o,ho⟩:=R.op hj
 exact(R.lv ho).frame (R.wf j (by omega)) r (fun hm=>h (.inl hm)) (fun hm=>h (.inr hm))
theorem Reg.made(R:Reg P F gl eqT ih ops S fp m0 w0){j r:Nat}(hj:j<ops.size)(h:(fp j).made r):(S j).h.nx≤r∧r<(S (j+1)).h.nx:=by
 obtain⟨o,ho⟩:=R.op hj
 have l:=R.lv ho
 rw[←l.nl,←l.nh];exact h
theorem Reg.of_made(R:Reg P F gl eqT ih ops S fp m0 w0){j r:Nat}(hj:j<ops.size)(h1:(S j).h.nx≤r)(h2:r<(S (j+1)).h.nx):(fp j).made r:=by
 obtain⟨o,ho⟩:=R.op hj
 have l:=R.lv ho
 unfold FP.made
 rw[l.nl,l.nh];exact⟨h1,h2⟩
theorem Reg.made_eq(R:Reg P F gl eqT ih ops S fp m0 w0){j k r:Nat}(hj:j<ops.size)(hk:k<ops.size)(h1:(fp j).made r)(h2:(fp k).made r):j=k:=by
 have a:=R.made hj h1
 have b:=R.made hk h2
 rcases Nat.lt_trichotomy j k with h|h|h
 ·have:=R.nx (i:=j+1) k h (by omega);omega
 ·exact h
 ·have:=R.nx (i:=k+1) j h (by omega);omega
theorem Reg.made_new(R:Reg P F gl eqT ih ops S fp m0 w0){j r:Nat}(hj:j<ops.size)(h:(fp j).made r):m0 r=none:=by
 have a:=R.made hj h
 exact R.free r (Y0C (R.nx j (Y0E _) (by omega)) a.1) (Y0D a.2 (R.nx ops.size (by omega) (Y0u _)))
variable{L:Nat→Prop}
theorem Reg.hv_at(R:Reg P F gl eqT ih ops S fp m0 w0){i r:Nat}(hi:i≤ops.size)(h1:∀j,j<i→((fp j).made r∨((fp j).turns r∧r<(S j).h.nx))→L j)(h2:∀j,i≤j→j<ops.size→((fp j).made r∨((fp j).turns r∧r<(S j).h.nx))→¬L j):
  HV S fp ops.size L r=(S i).h.get r:=by
 unfold HV
 exact(x7H (i:=i) (fun k hk hu=>R.frame (by omega) hu) h1 ops.size h2).2 hi
theorem Reg.hv_same(_:Reg P F gl eqT ih ops S fp m0 w0){L':Nat→Prop}{r:Nat}(h:∀j,j<ops.size→((fp j).made r∨((fp j).turns r∧r<(S j).h.nx))→(L j↔L' j)):HV S fp ops.size L r=HV S fp ops.size L' r:=by
 unfold HV
 exact z9k ops.size h
theorem Reg.hv_high(R:Reg P F gl eqT ih ops S fp m0 w0){r:Nat}(h:(S ops.size).h.nx≤r):HV S fp ops.size L r=none:=by
 have:∀j,j<ops.size→¬((fp j).made r∨((fp j).turns r∧r<(S j).h.nx)):=fun j hj hu=>by
  rcases hu with hu|⟨_,hu⟩
  ·have:=R.made hj hu
   have:=R.nx (i:=j+1) ops.size (by omega) (Y0u _)
   omega
  ·have:=R.nx (i:=j) ops.size (by omega) (Y0u _)
   omega
 rw[R.hv_at (L:=L) (i:=0) (Y0E _) (fun j hj=>by omega) (fun j _ hj hu=>absurd hu (this j hj))]
 exact R.wf 0 (Y0E _) r (Y0C (R.nx ops.size (Y0E _) (Y0u _)) h)
theorem Reg.get_hl(R:Reg P F gl eqT ih ops S fp m0 w0)(r:Nat):(HLof S fp ops.size L).get r=HV S fp ops.size L r:=by
 show(trOf (fun r=>HV S fp ops.size L r) (S ops.size).h.nx .e).get r=_
 rw[x4L]
 split
 ·rfl
 ·rw[R.hv_high (by omega)]
theorem Reg.tm_eq(R:Reg P F gl eqT ih ops S fp m0 w0){j t:Nat}(hj:j<ops.size)(h:¬∃o,ops[j]? =some o∧o.dst=some t):tget (S (j+1)).tm t=tget (S j).tm t:=by
 obtain⟨o,ho⟩:=R.op hj
 exact(R.lv ho).tm t (fun e=>h ⟨o,ho,e⟩)
theorem Reg.tv_at(R:Reg P F gl eqT ih ops S fp m0 w0){i t:Nat}(hi:i≤ops.size)(h1:∀j,j<i→(∃o,ops[j]? =some o∧o.dst=some t)→L j)(h2:∀j,i≤j→j<ops.size→(∃o,ops[j]? =some o∧o.dst=some t)→¬L j):
  TV S ops L t=tget (S i).tm t:=by
 unfold TV
 exact(x7H (i:=i) (fun k hk hu=>R.tm_eq (by omega) hu) h1 ops.size h2).2 hi
theorem Reg.tv_same(_:Reg P F gl eqT ih ops S fp m0 w0){L':Nat→Prop}{t:Nat}(h:∀j,j<ops.size→(∃o,ops[j]? =some o∧o.dst=some t)→(L j↔L' j)):TV S ops L t=TV S ops L' t:=by
 unfold TV
 exact z9k ops.size h
def Uses(S:Nat→St)(fp:Nat→FP)(r j:Nat):Prop:=(fp j).made r∨((fp j).turns r∧r<(S j).h.nx)
theorem Reg.noLd(R:Reg P F gl eqT ih ops S fp m0 w0){j r:Nat}(hj:j<ops.size)(h:Uses S fp r j):∀h,(fp j).ld h=none:=by
 obtain⟨o,ho⟩:=R.op hj
 rcases(R.lv ho).ld with h1|h1
 ·exact h1
 ·rcases h with h|⟨h,_⟩
  ·exact absurd h (h1 r).2
  ·exact absurd h (h1 r).1
theorem Reg.mask(R:Reg P F gl eqT ih ops S fp m0 w0){j k:Nat}(hjk:j<k)(hk:k<ops.size)(h1:∀h,(fp j).ld h=none)(h2:∀h,(fp k).ld h=none)(hh:FP.hard (fp j) (fp k)=true):q0E (masks [] ops.toList) k j=true:=
 R.hcl j k hjk hk (clash_of hh (soft_none h1 h2))
theorem Reg.used(R:Reg P F gl eqT ih ops S fp m0 w0){j k r:Nat}(hjk:j<k)(hk:k<ops.size)(h1:Uses S fp r j)(h2:Uses S fp r k):q0E (masks [] ops.toList) k j=true:=by
 refine R.mask hjk hk (R.noLd (by omega) h1) (R.noLd hk h2) ?_
 have hnx:=R.nx (i:=j) k (by omega) (by omega)
 obtain⟨o,ho⟩:=R.op hk
 have l:=R.lv ho
 rcases h2 with h2|⟨h2,h2'⟩
 ·have hm:=R.made hk h2
  rcases h1 with h1|⟨_,h1'⟩
  ·have:=R.made_eq (by omega) hk h1 h2;omega
  ·omega
 ·rcases h1 with h1|⟨h1,h1'⟩
  ·cases hrd:(fp k).rd with
   |some q=>exact z0S h1 hrd (by have:=l.sees r h2;unfold FP.sees at this;rw[hrd]at this;exact this)
   |none=>exact z9V h1 (l.any hrd r h2)
  ·exact z4U h1 (l.sees r h2) (by obtain⟨oj,hoj⟩:=R.op (show j<ops.size by omega);rw[(R.lv hoj).nl];exact h1')
theorem Reg.cutTo(R:Reg P F gl eqT ih ops S fp m0 w0){r:Nat}(hm:∀j k,L k→q0E (masks [] ops.toList) k j=true→L j):∀n,n≤ops.size→∃c,c≤n∧(∀j,j<c→Uses S fp r j→L j)∧(∀j,c≤j→j<n→Uses S fp r j→¬L j)
  |0,_=>⟨0,Y0u _,fun j hj=>by omega,fun j _ hj=>by omega⟩
  | n +1,hn=>by
    by_cases h:Uses S fp r n∧L n
    · refine⟨n+1,Y0u _,fun j hj hu=> ?_,fun j h1 h2=>by omega⟩
      by_cases he:j=n
      ·exact he▸h.2
      ·exact hm j n h.2 (R.used (by omega) (by omega) hu h.1)
    · obtain⟨c,g1,g2,g3⟩:=R.cutTo hm n (by omega)
      refine⟨c,by omega,g2,fun j h1 h2 hu hl=> ?_⟩
      by_cases he:j=n
      ·subst he;exact h ⟨hu,hl⟩
      ·exact g3 j h1 (by omega) hu hl
theorem sameO_eq{a b:Option AV}(h:q1J a b=true):a=b:=by
 unfold q1J at h
 split at h
 ·rw[x7Q _ _ h]
 ·cases h
theorem Reg.load(R:Reg P F gl eqT ih ops S fp m0 w0){i r:Nat}{v:AV}{ld:Hp→Option AV}{gi:Hp}(hi:i<ops.size)(hn:¬L i)(hm:∀j k,L k→q0E (masks [] ops.toList) k j=true→L j)(before:∀j,q0E (masks [] ops.toList) i j=true→L j)
    (hfi:(fp i).ld=ld) (hrd:(fp i).rd=some [r]) (hdep:∀g h:Hp,g.get r=h.get r→ld g=ld h) (hv:ld (S i).h=some v) (hnone:∀h:Hp,h.get r=none→ld h=none) (hgi:gi.get r=HV S fp ops.size L r):ld gi=some v:=by
  obtain⟨c,hc,c1,c2⟩:=R.cutTo (L:=L) (r:=r) hm ops.size (Y0u _)
  have hgc:gi.get r=(S c).h.get r:=by rw[hgi];exact R.hv_at hc c1 c2
  rw[hdep gi (S c).h hgc,←hv]
  have sees:(fp i).sees r:=by unfold FP.sees;rw[hrd];exact Y2d.2 rfl
  have hlt:r<(S i).h.nx:=by
    rcases Y1w r (S i).h.nx with h|h
    ·exact h
    ·rw[hnone _ (R.wf i (by omega) r h)]at hv;cases hv
  have hnu:¬Uses S fp r i:=fun hu=>by
    have:=R.noLd hi hu
    rw[hfi]at this
    rw[this]at hv;cases hv
  have one:∀j,j<ops.size→(Uses S fp r j→q1J (ld (fp j).h0) (ld (fp j).h1)=true)→ld (S (j+1)).h=ld (S j).h:=fun j hj h=>by
    by_cases hu:Uses S fp r j
    · obtain⟨o,ho⟩:=R.op hj
      have l:=R.lv ho
      have:=sameO_eq (h hu)
      rw[l.h0]at this
      rw[this]
      exact(hdep _ _ (l.h1 r)).symm
    ·exact hdep _ _ (R.frame hj hu)
  have softOf:∀{a b:FP},FP.hard a b=true→¬FP.clash a b=true→FP.soft a b=true:=fun{a b} h1 h2=>by
    unfold FP.clash at h2
    rw[h1]at h2
    simpa using h2
  rcases Y1w i c with hic|hic
  · have key:∀d,i+d≤c→ld (S (i+d)).h=ld (S i).h:=fun d=>by
      induction d with
      |zero=>intro _;rfl
      | succ d ihd=>
        intro hd
        rw[show i+(d+1)=(i+d)+1 by omega,one (i+d) (by omega) (fun hu=> ?_),ihd (by omega)]
        have hne:d≠0:=fun e=>by subst e;exact hnu hu
        have hj:=R.noLd (by omega) hu
        have hhard:FP.hard (fp i) (fp (i+d))=true:=by
          rcases hu with hu|⟨hu,_⟩
          · have:=R.made (by omega) hu
            have:=R.nx (i:=i) (i+d) (by omega) (by omega)
            omega
          ·exact z8I sees hu
        have hs:=softOf hhard fun hcl=>hn (hm i (i+d) (c1 (i+d) (by omega) hu) (R.hcl i (i+d) (by omega) (by omega) hcl))
        unfold FP.soft at hs
        rw[Y2g]at hs
        rcases hs with hs|hs
        ·rw[hfi]at hs;exact hs
        ·rw[hj]at hs;cases hs
    have:=key (c-i) (by omega)
    rw[show i+(c-i)=c by omega]at this
    exact this
  · have key:∀d,c+d≤i→ld (S (c+d)).h=ld (S c).h:=fun d=>by
      induction d with
      |zero=>intro _;rfl
      | succ d ihd=>
        intro hd
        rw[show c+(d+1)=(c+d)+1 by omega,one (c+d) (by omega) (fun hu=> ?_),ihd (by omega)]
        have hj:=R.noLd (by omega) hu
        have hhard:FP.hard (fp (c+d)) (fp i)=true:=by
          rcases hu with hu|⟨hu,hu2⟩
          ·exact z0S hu hrd (Y2d.2 rfl)
          ·exact z4U hu sees (by obtain⟨oj,hoj⟩:=R.op (show c+d<ops.size by omega);rw[(R.lv hoj).nl];exact hu2)
        have hs:=softOf hhard fun hcl=>c2 (c+d) (by omega) (by omega) hu (before _ (R.hcl (c+d) i (by omega) hi hcl))
        unfold FP.soft at hs
        rw[Y2g]at hs
        rcases hs with hs|hs
        ·rw[hj]at hs;cases hs
        ·rw[hfi]at hs;exact hs
    have:=key (i-c) (by omega)
    rw[show c+(i-c)=i by omega]at this
    exact this.symm
structure Inv(P:Program)(F:Nat→Option Obj)(ops:Array Oper)(S:Nat→St)(fp:Nat→FP)(m0:Loc)(w0:World)(L:Nat→Prop)(m:Loc)(a:Act)(w:World):Prop where
 sub:∀j,L j→j<ops.size
 closed:∀j,L j→After ops L j
 core:Core P F m0 (S 0).h (HLof S fp ops.size L) w0 w m
 names:∀r c,m r=some c→m0 r=none→∃k,L k∧(fp k).made r
 tm:∃T,(∀t,tget T t=TV S ops L t)∧TRel P F m T (S 0).n a.tmps
 ds:DsRel P F m (S 0).ds a.defers
theorem Reg.same_n(R:Reg P F gl eqT ih ops S fp m0 w0):∀j,j≤ops.size→(S j).n=(S 0).n∧(S j).rd=(S 0).rd∧(S j).ds=(S 0).ds∧HpLe (S 0).h (S j).h
  |0,_=>⟨rfl,rfl,rfl,.refl _⟩
  | j+1,hj=>by
    obtain⟨o,ho⟩:=R.op (show j<ops.size by omega)
    have l:=R.lv ho
    obtain⟨g1,g2,g3,g4⟩:=R.same_n j (by omega)
    exact⟨l.n.trans g1,l.rd.trans g2,l.ds.trans g3,g4.trans l.le⟩
end
end Go.Ax
