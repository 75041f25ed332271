import Derived.Test.YtdfjkochhifpmaaGreatDoorV08
import Derived.Test.YtdfjkochhifpmaaGreatDoorProg
set_option linter.unusedSimpArgs false
set_option linter.unusedVariables false
namespace Go.Ax
variable{Fs P Q I1 C1 I2 C2 I3 C3 I4 C4 B1 B2 Q1 Q2:Prop}
theorem zc{a b:Prop}(x:a)(y:b):a∧b:=⟨x,y⟩
theorem pure1{P:Program}{F:Nat→Option Obj}{f:FuncId}{args:List AV}{v:AV}(k:Nat)(hn:q2g args=true)(hz:∀g,frzV k g v=some v)(hc:CallsT P F h0 (fun u _=>u=v) f args):PureC P F f args v:=Y2z hn hc fun u g e=>by subst e;exact hz g
theorem zA0(q:Q)(f:Q→P:=by
 intro h
 repeat1' first
  |refine Y2v ?_
  |refine Y2x ?_
  |refine Y2s ?_
  |refine Y2t ?_
  |refine Y2I hP rfl ?_
  |refine Y2J hP rfl ?_
  |(refine Y2W hP (by simp<;>rfl) ?_;dsimp only[goK])
  |((fail_if_success (refine q1G (fun hb=> ?_) (fun hb=> ?_)));simp only[q0a,q0c,q0d,↓reduceIte,Nat.reduceEqDiff,reduceCtorEq])
  |(refine Y2u ⟨.inr rfl,_,_,rfl,rfl,?_⟩;dsimp only[q0q])
 exact h):P:=f q
theorem zA0f(a:Fs)(q:Q)(f:Fs→Q→P:=by
 intro fs h
 repeat1' first
  |refine Y2v ?_
  |refine Y2x ?_
  |refine Y2s ?_
  |refine Y2t ?_
  |refine Y2I hP rfl ?_
  |refine Y2J hP rfl ?_
  |(refine Y2W hP (by simp[fs]<;>rfl) ?_;dsimp only[goK])
  |((fail_if_success (refine q1G (fun hb=> ?_) (fun hb=> ?_)));simp only[q0a,q0c,q0d,↓reduceIte,Nat.reduceEqDiff,reduceCtorEq])
  |(refine Y2u ⟨.inr rfl,_,_,rfl,rfl,?_⟩;dsimp only[q0q])
 exact h):P:=f a q
theorem zA1(i1:I1)(c1:C1)(q:Q)(f:I1→C1→Q→P:=by
 intro i1 c1 h
 repeat1' first
  |refine Y2v ?_
  |refine Y2x ?_
  |refine Y2s ?_
  |refine Y2t ?_
  |refine Y2I hP rfl ?_
  |refine Y2J hP rfl ?_
  |(refine Y2W hP (by simp<;>rfl) ?_;dsimp only[goK])
  |(refine Y2O hP i1 c1 ?_ rfl rfl rfl rfl ?_;(focus(simp;done));refine Y2X hP (by simp<;>rfl) ?_;dsimp only[goK])
  |((fail_if_success (refine q1G (fun hb=> ?_) (fun hb=> ?_)));simp only[q0a,q0c,q0d,↓reduceIte,Nat.reduceEqDiff,reduceCtorEq])
  |(refine Y2u ⟨.inr rfl,_,_,rfl,rfl,?_⟩;dsimp only[q0q])
 exact h):P:=f i1 c1 q
theorem zA1f(a:Fs)(i1:I1)(c1:C1)(q:Q)(f:Fs→I1→C1→Q→P:=by
 intro fs i1 c1 h
 repeat1' first
  |refine Y2v ?_
  |refine Y2x ?_
  |refine Y2s ?_
  |refine Y2t ?_
  |refine Y2I hP rfl ?_
  |refine Y2J hP rfl ?_
  |(refine Y2W hP (by simp[fs]<;>rfl) ?_;dsimp only[goK])
  |(refine Y2O hP i1 c1 ?_ rfl rfl rfl rfl ?_;(focus(simp;done));refine Y2X hP (by simp[fs]<;>rfl) ?_;dsimp only[goK])
  |((fail_if_success (refine q1G (fun hb=> ?_) (fun hb=> ?_)));simp only[q0a,q0c,q0d,↓reduceIte,Nat.reduceEqDiff,reduceCtorEq])
  |(refine Y2u ⟨.inr rfl,_,_,rfl,rfl,?_⟩;dsimp only[q0q])
 exact h):P:=f a i1 c1 q
theorem zA2(i1:I1)(c1:C1)(i2:I2)(c2:C2)(q:Q)(f:I1→C1→I2→C2→Q→P:=by
 intro i1 c1 i2 c2 h
 repeat1' first
  |refine Y2v ?_
  |refine Y2x ?_
  |refine Y2s ?_
  |refine Y2t ?_
  |refine Y2I hP rfl ?_
  |refine Y2J hP rfl ?_
  |(refine Y2W hP (by simp<;>rfl) ?_;dsimp only[goK])
  |(refine Y2O hP i1 c1 ?_ rfl rfl rfl rfl ?_;(focus(simp;done));refine Y2X hP (by simp<;>rfl) ?_;dsimp only[goK])
  |(refine Y2O hP i2 c2 ?_ rfl rfl rfl rfl ?_;(focus(simp;done));refine Y2X hP (by simp<;>rfl) ?_;dsimp only[goK])
  |((fail_if_success (refine q1G (fun hb=> ?_) (fun hb=> ?_)));simp only[q0a,q0c,q0d,↓reduceIte,Nat.reduceEqDiff,reduceCtorEq])
  |(refine Y2u ⟨.inr rfl,_,_,rfl,rfl,?_⟩;dsimp only[q0q])
 exact h):P:=f i1 c1 i2 c2 q
theorem zA2f(a:Fs)(i1:I1)(c1:C1)(i2:I2)(c2:C2)(q:Q)(f:Fs→I1→C1→I2→C2→Q→P:=by
 intro fs i1 c1 i2 c2 h
 repeat1' first
  |refine Y2v ?_
  |refine Y2x ?_
  |refine Y2s ?_
  |refine Y2t ?_
  |refine Y2I hP rfl ?_
  |refine Y2J hP rfl ?_
  |(refine Y2W hP (by simp[fs]<;>rfl) ?_;dsimp only[goK])
  |(refine Y2O hP i1 c1 ?_ rfl rfl rfl rfl ?_;(focus(simp;done));refine Y2X hP (by simp[fs]<;>rfl) ?_;dsimp only[goK])
  |(refine Y2O hP i2 c2 ?_ rfl rfl rfl rfl ?_;(focus(simp;done));refine Y2X hP (by simp[fs]<;>rfl) ?_;dsimp only[goK])
  |((fail_if_success (refine q1G (fun hb=> ?_) (fun hb=> ?_)));simp only[q0a,q0c,q0d,↓reduceIte,Nat.reduceEqDiff,reduceCtorEq])
  |(refine Y2u ⟨.inr rfl,_,_,rfl,rfl,?_⟩;dsimp only[q0q])
 exact h):P:=f a i1 c1 i2 c2 q
theorem zA3f(a:Fs)(i1:I1)(c1:C1)(i2:I2)(c2:C2)(i3:I3)(c3:C3)(q:Q)(f:Fs→I1→C1→I2→C2→I3→C3→Q→P:=by
 intro fs i1 c1 i2 c2 i3 c3 h
 repeat1' first
  |refine Y2v ?_
  |refine Y2x ?_
  |refine Y2s ?_
  |refine Y2t ?_
  |refine Y2I hP rfl ?_
  |refine Y2J hP rfl ?_
  |(refine Y2W hP (by simp[fs]<;>rfl) ?_;dsimp only[goK])
  |(refine Y2O hP i1 c1 ?_ rfl rfl rfl rfl ?_;(focus(simp;done));refine Y2X hP (by simp[fs]<;>rfl) ?_;dsimp only[goK])
  |(refine Y2O hP i2 c2 ?_ rfl rfl rfl rfl ?_;(focus(simp;done));refine Y2X hP (by simp[fs]<;>rfl) ?_;dsimp only[goK])
  |(refine Y2O hP i3 c3 ?_ rfl rfl rfl rfl ?_;(focus(simp;done));refine Y2X hP (by simp[fs]<;>rfl) ?_;dsimp only[goK])
  |((fail_if_success (refine q1G (fun hb=> ?_) (fun hb=> ?_)));simp only[q0a,q0c,q0d,↓reduceIte,Nat.reduceEqDiff,reduceCtorEq])
  |(refine Y2u ⟨.inr rfl,_,_,rfl,rfl,?_⟩;dsimp only[q0q])
 exact h):P:=f a i1 c1 i2 c2 i3 c3 q
theorem zA4(i1:I1)(c1:C1)(i2:I2)(c2:C2)(i3:I3)(c3:C3)(i4:I4)(c4:C4)(q:Q)(f:I1→C1→I2→C2→I3→C3→I4→C4→Q→P:=by
 intro i1 c1 i2 c2 i3 c3 i4 c4 h
 repeat1' first
  |refine Y2v ?_
  |refine Y2x ?_
  |refine Y2s ?_
  |refine Y2t ?_
  |refine Y2I hP rfl ?_
  |refine Y2J hP rfl ?_
  |(refine Y2W hP (by simp<;>rfl) ?_;dsimp only[goK])
  |(refine Y2O hP i1 c1 ?_ rfl rfl rfl rfl ?_;(focus(simp;done));refine Y2X hP (by simp<;>rfl) ?_;dsimp only[goK])
  |(refine Y2O hP i2 c2 ?_ rfl rfl rfl rfl ?_;(focus(simp;done));refine Y2X hP (by simp<;>rfl) ?_;dsimp only[goK])
  |(refine Y2O hP i3 c3 ?_ rfl rfl rfl rfl ?_;(focus(simp;done));refine Y2X hP (by simp<;>rfl) ?_;dsimp only[goK])
  |(refine Y2O hP i4 c4 ?_ rfl rfl rfl rfl ?_;(focus(simp;done));refine Y2X hP (by simp<;>rfl) ?_;dsimp only[goK])
  |((fail_if_success (refine q1G (fun hb=> ?_) (fun hb=> ?_)));simp only[q0a,q0c,q0d,↓reduceIte,Nat.reduceEqDiff,reduceCtorEq])
  |(refine Y2u ⟨.inr rfl,_,_,rfl,rfl,?_⟩;dsimp only[q0q])
 exact h):P:=f i1 c1 i2 c2 i3 c3 i4 c4 q
theorem zA4f(a:Fs)(i1:I1)(c1:C1)(i2:I2)(c2:C2)(i3:I3)(c3:C3)(i4:I4)(c4:C4)(q:Q)(f:Fs→I1→C1→I2→C2→I3→C3→I4→C4→Q→P:=by
 intro fs i1 c1 i2 c2 i3 c3 i4 c4 h
 repeat1' first
  |refine Y2v ?_
  |refine Y2x ?_
  |refine Y2s ?_
  |refine Y2t ?_
  |refine Y2I hP rfl ?_
  |refine Y2J hP rfl ?_
  |(refine Y2W hP (by simp[fs]<;>rfl) ?_;dsimp only[goK])
  |(refine Y2O hP i1 c1 ?_ rfl rfl rfl rfl ?_;(focus(simp;done));refine Y2X hP (by simp[fs]<;>rfl) ?_;dsimp only[goK])
  |(refine Y2O hP i2 c2 ?_ rfl rfl rfl rfl ?_;(focus(simp;done));refine Y2X hP (by simp[fs]<;>rfl) ?_;dsimp only[goK])
  |(refine Y2O hP i3 c3 ?_ rfl rfl rfl rfl ?_;(focus(simp;done));refine Y2X hP (by simp[fs]<;>rfl) ?_;dsimp only[goK])
  |(refine Y2O hP i4 c4 ?_ rfl rfl rfl rfl ?_;(focus(simp;done));refine Y2X hP (by simp[fs]<;>rfl) ?_;dsimp only[goK])
  |((fail_if_success (refine q1G (fun hb=> ?_) (fun hb=> ?_)));simp only[q0a,q0c,q0d,↓reduceIte,Nat.reduceEqDiff,reduceCtorEq])
  |(refine Y2u ⟨.inr rfl,_,_,rfl,rfl,?_⟩;dsimp only[q0q])
 exact h):P:=f a i1 c1 i2 c2 i3 c3 i4 c4 q
theorem zR0(q:Q)(f:Q→P:=by
 intro h
 repeat1' first
  |refine Y2v ?_
  |refine Y2x ?_
  |refine Y2s ?_
  |refine Y2t ?_
  |refine Y2I hP rfl ?_
  |refine Y2J hP rfl ?_
  |(refine Y2W hP (by simp<;>rfl) ?_;dsimp only[goK])
  |((fail_if_success (refine q1G (fun hb=> ?_) (fun hb=> ?_)));simp only[q0a,q0c,q0d,↓reduceIte,Nat.reduceEqDiff,reduceCtorEq])
 exact h):P:=f q
theorem zR0f(a:Fs)(q:Q)(f:Fs→Q→P:=by
 intro fs h
 repeat1' first
  |refine Y2v ?_
  |refine Y2x ?_
  |refine Y2s ?_
  |refine Y2t ?_
  |refine Y2I hP rfl ?_
  |refine Y2J hP rfl ?_
  |(refine Y2W hP (by simp[fs]<;>rfl) ?_;dsimp only[goK])
  |((fail_if_success (refine q1G (fun hb=> ?_) (fun hb=> ?_)));simp only[q0a,q0c,q0d,↓reduceIte,Nat.reduceEqDiff,reduceCtorEq])
 exact h):P:=f a q
theorem zR1(i1:I1)(c1:C1)(q:Q)(f:I1→C1→Q→P:=by
 intro i1 c1 h
 repeat1' first
  |refine Y2v ?_
  |refine Y2x ?_
  |refine Y2s ?_
  |refine Y2t ?_
  |refine Y2I hP rfl ?_
  |refine Y2J hP rfl ?_
  |(refine Y2W hP (by simp<;>rfl) ?_;dsimp only[goK])
  |(refine Y2O hP i1 c1 ?_ rfl rfl rfl rfl ?_;(focus(simp;done));refine Y2X hP (by simp<;>rfl) ?_;dsimp only[goK])
  |((fail_if_success (refine q1G (fun hb=> ?_) (fun hb=> ?_)));simp only[q0a,q0c,q0d,↓reduceIte,Nat.reduceEqDiff,reduceCtorEq])
 exact h):P:=f i1 c1 q
theorem zR1f(a:Fs)(i1:I1)(c1:C1)(q:Q)(f:Fs→I1→C1→Q→P:=by
 intro fs i1 c1 h
 repeat1' first
  |refine Y2v ?_
  |refine Y2x ?_
  |refine Y2s ?_
  |refine Y2t ?_
  |refine Y2I hP rfl ?_
  |refine Y2J hP rfl ?_
  |(refine Y2W hP (by simp[fs]<;>rfl) ?_;dsimp only[goK])
  |(refine Y2O hP i1 c1 ?_ rfl rfl rfl rfl ?_;(focus(simp;done));refine Y2X hP (by simp[fs]<;>rfl) ?_;dsimp only[goK])
  |((fail_if_success (refine q1G (fun hb=> ?_) (fun hb=> ?_)));simp only[q0a,q0c,q0d,↓reduceIte,Nat.reduceEqDiff,reduceCtorEq])
 exact h):P:=f a i1 c1 q
theorem zR2(i1:I1)(c1:C1)(i2:I2)(c2:C2)(q:Q)(f:I1→C1→I2→C2→Q→P:=by
 intro i1 c1 i2 c2 h
 repeat1' first
  |refine Y2v ?_
  |refine Y2x ?_
  |refine Y2s ?_
  |refine Y2t ?_
  |refine Y2I hP rfl ?_
  |refine Y2J hP rfl ?_
  |(refine Y2W hP (by simp<;>rfl) ?_;dsimp only[goK])
  |(refine Y2O hP i1 c1 ?_ rfl rfl rfl rfl ?_;(focus(simp;done));refine Y2X hP (by simp<;>rfl) ?_;dsimp only[goK])
  |(refine Y2O hP i2 c2 ?_ rfl rfl rfl rfl ?_;(focus(simp;done));refine Y2X hP (by simp<;>rfl) ?_;dsimp only[goK])
  |((fail_if_success (refine q1G (fun hb=> ?_) (fun hb=> ?_)));simp only[q0a,q0c,q0d,↓reduceIte,Nat.reduceEqDiff,reduceCtorEq])
 exact h):P:=f i1 c1 i2 c2 q
theorem zR2f(a:Fs)(i1:I1)(c1:C1)(i2:I2)(c2:C2)(q:Q)(f:Fs→I1→C1→I2→C2→Q→P:=by
 intro fs i1 c1 i2 c2 h
 repeat1' first
  |refine Y2v ?_
  |refine Y2x ?_
  |refine Y2s ?_
  |refine Y2t ?_
  |refine Y2I hP rfl ?_
  |refine Y2J hP rfl ?_
  |(refine Y2W hP (by simp[fs]<;>rfl) ?_;dsimp only[goK])
  |(refine Y2O hP i1 c1 ?_ rfl rfl rfl rfl ?_;(focus(simp;done));refine Y2X hP (by simp[fs]<;>rfl) ?_;dsimp only[goK])
  |(refine Y2O hP i2 c2 ?_ rfl rfl rfl rfl ?_;(focus(simp;done));refine Y2X hP (by simp[fs]<;>rfl) ?_;dsimp only[goK])
  |((fail_if_success (refine q1G (fun hb=> ?_) (fun hb=> ?_)));simp only[q0a,q0c,q0d,↓reduceIte,Nat.reduceEqDiff,reduceCtorEq])
 exact h):P:=f a i1 c1 i2 c2 q
theorem zR4(i1:I1)(c1:C1)(i2:I2)(c2:C2)(i3:I3)(c3:C3)(i4:I4)(c4:C4)(q:Q)(f:I1→C1→I2→C2→I3→C3→I4→C4→Q→P:=by
 intro i1 c1 i2 c2 i3 c3 i4 c4 h
 repeat1' first
  |refine Y2v ?_
  |refine Y2x ?_
  |refine Y2s ?_
  |refine Y2t ?_
  |refine Y2I hP rfl ?_
  |refine Y2J hP rfl ?_
  |(refine Y2W hP (by simp<;>rfl) ?_;dsimp only[goK])
  |(refine Y2O hP i1 c1 ?_ rfl rfl rfl rfl ?_;(focus(simp;done));refine Y2X hP (by simp<;>rfl) ?_;dsimp only[goK])
  |(refine Y2O hP i2 c2 ?_ rfl rfl rfl rfl ?_;(focus(simp;done));refine Y2X hP (by simp<;>rfl) ?_;dsimp only[goK])
  |(refine Y2O hP i3 c3 ?_ rfl rfl rfl rfl ?_;(focus(simp;done));refine Y2X hP (by simp<;>rfl) ?_;dsimp only[goK])
  |(refine Y2O hP i4 c4 ?_ rfl rfl rfl rfl ?_;(focus(simp;done));refine Y2X hP (by simp<;>rfl) ?_;dsimp only[goK])
  |((fail_if_success (refine q1G (fun hb=> ?_) (fun hb=> ?_)));simp only[q0a,q0c,q0d,↓reduceIte,Nat.reduceEqDiff,reduceCtorEq])
 exact h):P:=f i1 c1 i2 c2 i3 c3 i4 c4 q
theorem zS(q:B1→Q1)(r:B2→Q2)(f:(B1→Q1)→(B2→Q2)→P:=by
 intro h1 h2
 refine q1G (fun hb=> ?_) (fun hb=> ?_)
 ·try simp only[Y3e,Y1k,Y3f]at hb
  refine z8u (by simp[hb]<;>rfl) ?_
  dsimp only[goK]
  exact h1 hb
 ·try simp only[Y3e,Y1k,Y3f]at hb
  refine z8u (by simp[hb]<;>rfl) ?_
  dsimp only[goK]
  exact h2 hb):P:=f q r
theorem zG(q:Q)(f:Q→P:=by
 intro h
 refine Y2v (Y2W hP (by simp<;>rfl) ?_)
 dsimp only[goK,q0a,q0c,q0d]
 exact h):P:=f q
theorem zL(f:P:=by
 repeat' first|exact q0h|refine q0e (by simp) ?_):P:=f
theorem zSf(a:Fs)(q:B1→Q1)(r:B2→Q2)(f:Fs→(B1→Q1)→(B2→Q2)→P:=by
 intro fs h1 h2
 refine q1G (fun hb=> ?_) (fun hb=> ?_)
 ·try simp only[Y3e,Y1k,Y3f]at hb
  refine z8u (by simp[hb,fs]<;>rfl) ?_
  dsimp only[goK]
  exact h1 hb
 ·try simp only[Y3e,Y1k,Y3f]at hb
  refine z8u (by simp[hb,fs]<;>rfl) ?_
  dsimp only[goK]
  exact h2 hb):P:=f a q r
theorem zGf(a:Fs)(q:Q)(f:Fs→Q→P:=by
 intro fs h
 refine Y2v (Y2W hP (by simp[fs]<;>rfl) ?_)
 dsimp only[goK,q0a,q0c,q0d]
 exact h):P:=f a q
theorem zLf(a:Fs)(f:Fs→P:=by
 intro fs
 repeat' first|exact q0h|refine q0e (by simp[fs]) ?_):P:=f a
theorem zP(i:I1)(q:Q)(f:I1→Q→P:=by
 intro e h
 refine pure1 1 (by simp) (fun g=>rfl) ?_
 refine Y2y hP q0f e rfl rfl ?_
 exact h):P:=f i q
theorem zP2(i:I1)(q:Q)(f:I1→Q→P:=by
 intro e h
 refine pure1 2 (by simp) (fun g=>rfl) ?_
 refine Y2y hP q0f e rfl rfl ?_
 exact h):P:=f i q
theorem zP3(i:I1)(q:Q)(f:I1→Q→P:=by
 intro e h
 refine pure1 3 (by simp) (fun g=>rfl) ?_
 refine Y2y hP q0f e rfl rfl ?_
 exact h):P:=f i q
end Go.Ax
namespace Go.Ax
variable{Fs P Q C1 B1:Prop}
structure ZW(ms:List Nat):Prop where
 mk::
theorem zw(ms:List Nat):ZW ms:=⟨⟩
def zms{ms:List Nat}(_:ZW ms):List Nat:=ms
theorem zn(n:Nat):¬n+1≤n∧¬n+2≤n∧¬n+2≤n+1∧¬n+3≤n∧¬n+3≤n+1∧¬n+3≤n+2:=by omega
theorem t0{P:Program}{F:Nat→Option Obj}:∀e∈([]:List (FuncId×List AV×AV)),PureC P F e.1 e.2.1 e.2.2:=fun e he=>by cases he
theorem tl{P:Program}{F:Nat→Option Obj}(f:FuncId)(args:List AV)(v:AV){T:List (FuncId×List AV×AV)}(p:PureC P F f args v)(r:∀e∈T,PureC P F e.1 e.2.1 e.2.2):∀e∈(f,args,v)::T,PureC P F e.1 e.2.1 e.2.2:=fun e he=>by
 rcases Y2k.1 he with rfl|he
 ·exact p
 ·exact r e he
theorem zE(t:C1)(q:Q)(f:C1→Q→P:=by
 intro t h
 repeat first|refine Y2v ?_|refine Y2x ?_
 refine Y3c hP _ t (by kernel_rfl) (by simp[hX]<;>rfl) ?_
 fail_if_success (refine q5L (fun hb=> ?_) (fun hb=> ?_))
 dsimp only[okQ,q0a]
 exact h):P:=f t q
theorem zEf(a:Fs)(t:C1)(q:Q)(f:Fs→C1→Q→P:=by
 intro fs t h
 repeat first|refine Y2v ?_|refine Y2x ?_
 refine Y3c hP _ t (by kernel_rfl) (by simp[hX,fs]<;>rfl) ?_
 fail_if_success (refine q5L (fun hb=> ?_) (fun hb=> ?_))
 dsimp only[okQ,q0a]
 exact h):P:=f a t q
theorem zHf(a:Fs)(t:C1)(w:B1)(q:Q)(f:Fs→C1→B1→Q→P:=by
 intro fs t w h
 repeat first|refine Y2v ?_|refine Y2x ?_
 refine Y3d hP _ t (zms w) (by kernel_rfl) (by kernel_rfl) (by simp[hX,fs,zms,zn,oneD,fpAt,fpOf,q0z,ldOf,q0V,q0n,FP.clash,FP.hard,FP.soft,overlap,inR,q0E,q1J,Nat.testBit]<;>rfl) ?_
 fail_if_success (refine q1g (fun hb=> ?_) (fun hb=> ?_))
 dsimp only[okD,q0a]
 exact h):P:=f a t w q
end Go.Ax
noncomputable section
namespace Go.Ax
inductive Sl(α:Type)where
 |nil
 |mk (l:List α)
def Sl.list{α:Type}:Sl α→List α
 | .nil=>[]
 | .mk l=>l
def z8W:Option TI→Bool
 |some ti=>(match ti.desc with| .slice _=>true|_=>false)
 |none=>false
def Sl.av{α:Type}(e:α→List AV):Sl α→AV
 | .nil=>.nilsl
 | .mk l=>.isl (l.map e)
def i64(n:Int):AV:=.int .i64 n
def cI(n:Int):List AV:=[.int .i64 n]
structure LEnd where
 kind:Int
 a:Int
 to:Int
 els:Int
structure LIns where
 op:Int
 type:Int
 a:Int
 b:Int
 n:Int
 args:Sl Int
 frm:Sl Int
structure LBlock where
 ins:Sl LIns
 ed:LEnd
structure LFunc where
 sig:Int
 blocks:Sl LBlock
structure LType where
 kind:Int
 elem:Int
 many:Int
 parts:Sl Int
structure LProg where
 types:Sl LType
 funcs:Sl LFunc
def LEnd.cells(x:LEnd):List AV:=[.int .u8 x.kind,.int .i64 x.a,.int .i64 x.to,.int .i64 x.els]
def LIns.cells(x:LIns):List AV:=[.int .u8 x.op,.int .i64 x.type,.int .i64 x.a,.int .i64 x.b,.int .i64 x.n,x.args.av cI,x.frm.av cI]
def LBlock.cells(x:LBlock):List AV:=x.ins.av LIns.cells::x.ed.cells
def LFunc.cells(x:LFunc):List AV:=[.int .i64 x.sig,x.blocks.av LBlock.cells]
theorem q2c{α:Type}{e:α→List AV}(x:Sl α):lenA (x.av e)=some x.list.length:=by cases x<;>simp[Sl.av,Sl.list,lenA]
theorem q0j{α:Type}{e:α→List AV}{x:Sl α}(h:0<x.list.length):x.av e= .isl (x.list.map e):=by
 cases x with
 |nil=>simp[Sl.list]at h
 |mk l=>rfl
theorem q4B{α:Type}{e:α→List AV}(x:Sl α)(s:List Nat):x.av e≠ .str s:=by cases x<;>simp[Sl.av]
theorem len_av{α:Type}{e:α→List AV}{C:Ctx}{t:TypeId}{h:Hp}(x:Sl α)(ht:z8W (C.ti t)=true):q2S C t (x.av e) h=some (.int .i64 x.list.length):=by
  unfold q2S
  cases hx:C.ti t with
  |none=>rw[hx]at ht;cases ht
  | some ti=>
    rw[hx]at ht
    unfold z8W at ht
    dsimp only at ht⊢
    split at ht
    · rename_i e' hd
      rw[hd]
      have:=q2c (e:=e) x
      cases x<;>(dsimp only[Sl.av]at this⊢;rw[this];rfl)
    ·cases ht
theorem len_av2{α:Type}{e:α→List AV}{C:Ctx}{t:TypeId}{h:Hp}(x:Sl α):q2S C t (x.av e) h=if z8W (C.ti t)=true then some (.int .i64 x.list.length)else q2S C t (x.av e) h:=by
 split
 ·rename_i ht;exact len_av x ht
 ·rfl
theorem q3j{C:Ctx}{t:TypeId}{h:Hp}{v:AV}{k:Nat}(hv:lenA v=some k)(hs:∀s,v≠ .str s):q2S C t v h=if z8W (C.ti t)=true then some (.int .i64 k)else q2S C t v h:=by
  split
  · rename_i ht
    unfold q2S
    cases hx:C.ti t with
    |none=>rw[hx]at ht;cases ht
    | some ti=>
      rw[hx]at ht
      unfold z8W at ht
      dsimp only at ht⊢
      split at ht
      · rename_i e' hd
        rw[hd]
        cases v<;>first|exact absurd rfl (hs _)|(dsimp only;rw[hv];rfl)
      ·cases ht
  ·rfl
theorem len_isl{C:Ctx}{t:TypeId}{h:Hp}{xs:List (List AV)}:q2S C t (.isl xs) h=if z8W (C.ti t)=true then some (.int .i64 xs.length)else q2S C t (.isl xs) h:=q3j rfl nofun
theorem len_sl{C:Ctx}{t:TypeId}{h:Hp}{r o n c e:Nat}{x:Bool}:q2S C t (.sl r o n c e x) h=if z8W (C.ti t)=true then some (.int .i64 n)else q2S C t (.sl r o n c e x) h:=q3j rfl nofun
theorem len_nilsl{C:Ctx}{t:TypeId}{h:Hp}:q2S C t .nilsl h=if z8W (C.ti t)=true then some (.int .i64 (0:Nat))else q2S C t .nilsl h:=q3j rfl nofun
attribute [simp] len_isl len_sl len_nilsl
theorem z3J{α:Type}{e:α→List AV}(x:Sl α):q1f (x.av e)=true:=by cases x<;>rfl
theorem z4V{α:Type}{e:α→List AV}(x:Sl α):cellsOf (x.av e)=some [x.av e]:=by cases x<;>rfl
attribute [simp] z3J z4V LFunc.cells LBlock.cells LEnd.cells LIns.cells len_av2 z8W
theorem q4F{P:Program}{gl:Nat→AV}{K:Knob}{t:TypeId}(ht:Nat.blt t P.types.size=true):(Ctx.of P gl K).ti t=mkTI P t:=by
 unfold Ctx.ti
 simp only[Ctx.of]
 rw[z3u,Y0e (show t<P.types.size from Y0J ht)]
 cases mkTI P t<;>rfl
def LType.cells(x:LType):List AV:=[.int .u8 x.kind,.int .i64 x.elem,.int .i64 x.many,x.parts.av cI]
def LProg.cells(x:LProg):List AV:=[x.types.av LType.cells,x.funcs.av LFunc.cells]
attribute [simp] LType.cells LProg.cells cI
theorem q3T{α:Type}{e:α→List AV}(he:∀x,q2g (e x)=true)(x:Sl α):q3Z (x.av e)=true:=by
  cases x with
  |nil=>rfl
  | mk l=>
    show q6y (l.map e)=true
    induction l with
    |nil=>rfl
    |cons a l ih=>show(q2g (e a)&&q6y (l.map e))=true;rw[he a,ih];rfl
theorem x0D:q2g []=true:=rfl
theorem z6J{v:AV}{l:List AV}:q2g (v::l)=(q3Z v&&q2g l):=rfl
theorem x0E{k:IntKind}{n:Int}:q3Z (.int k n)=true:=rfl
theorem nr_bool{b:Bool}:q3Z (.bool b)=true:=rfl
theorem nr_agg{l:List AV}:q3Z (.agg l)=q2g l:=rfl
theorem x2Y(x:Sl Int):q3Z (x.av cI)=true:=q3T (fun _=>rfl) x
theorem nr_ins(x:LIns):q2g x.cells=true:=by simp[LIns.cells,z6J,x0E,x2Y,x0D]
theorem x8g(x:Sl LIns):q3Z (x.av LIns.cells)=true:=q3T nr_ins x
theorem z9s(x:LBlock):q2g x.cells=true:=by simp[LBlock.cells,LEnd.cells,z6J,x0E,x8g,x0D]
theorem x0Y(x:Sl LBlock):q3Z (x.av LBlock.cells)=true:=q3T z9s x
theorem x2Z(x:LFunc):q2g x.cells=true:=by simp[LFunc.cells,z6J,x0E,x0Y,x0D]
theorem nr_funcs(x:Sl LFunc):q3Z (x.av LFunc.cells)=true:=q3T x2Z x
theorem z6I(x:LType):q2g x.cells=true:=by simp[LType.cells,z6J,x0E,x2Y,x0D]
theorem nr_types(x:Sl LType):q3Z (x.av LType.cells)=true:=q3T z6I x
attribute [simp] x0D z6J x0E nr_bool nr_agg x2Y x8g x0Y nr_funcs nr_types
theorem q3Y{P:Program}{gl:Nat→AV}{K:Knob}{f:FuncId}:(Ctx.of P gl K).fn.get f=P.funcs[f]? :=by
 simp only[Ctx.of]
 rw[z3u]
 split
 ·cases P.funcs[f]? <;>rfl
 ·rename_i h
  rw[Y0a,eq_comm,Y1N]
  omega
theorem orc_of{P:Program}{gl:Nat→AV}{K:Knob}:(Ctx.of P gl K).orc=K.orc:=rfl
theorem ext_of{P:Program}{gl:Nat→AV}{K:Knob}:(Ctx.of P gl K).ext=K.ext:=rfl
theorem tell_ext{K:Knob}{T:List (FuncId×List AV×AV)}:(K.tell T).ext=K.ext:=rfl
theorem tell_orc{K:Knob}{T:List (FuncId×List AV×AV)}:(K.tell T).orc=orcT K T:=rfl
attribute [simp] orc_of ext_of tell_ext tell_orc orcT
theorem x7L(h:Hp)(x:Sl Int):RdI h (x.av cI) x.list:=by
 cases x with
 |nil=>exact .inl ⟨rfl,rfl⟩
 |mk l=>exact .inr (.inl rfl)
end Go.Ax
noncomputable section
namespace Go.Ax
open Go.Proofs
abbrev q0m:TypeId:=37
abbrev q0x:TypeId:=3
abbrev z4J:TypeId:=22
abbrev q6q:TypeId:=95
abbrev q0o:TypeId:=25
abbrev q7O:TypeId:=59
abbrev q9w:TypeId:=23
abbrev q4C:TypeId:=56
abbrev q6L:TypeId:=54
abbrev q1Q:TypeId:=61
abbrev z0y:TypeId:=57
abbrev q1e:TypeId:=39
abbrev q3B:FuncId:=3
theorem q9X:Tryz.prog.funcs[q3B]? =some Tryz.f3:=Tryz.func3
abbrev q5m:FuncId:=5
theorem z3g:Tryz.prog.funcs[q5m]? =some Tryz.f5:=Tryz.func5
theorem q2x:IsFn Tryz.prog q5m:=⟨_,_,Tryz.func5,rfl⟩
abbrev q6a:FuncId:=6
theorem z4t:Tryz.prog.funcs[q6a]? =some Tryz.f6:=Tryz.func6
theorem q3X:IsFn Tryz.prog q6a:=⟨_,_,Tryz.func6,rfl⟩
abbrev z0W:FuncId:=7
theorem z5F:Tryz.prog.funcs[z0W]? =some Tryz.f7:=Tryz.func7
theorem q8y:IsFn Tryz.prog z0W:=⟨_,_,Tryz.func7,rfl⟩
abbrev q5f:FuncId:=8
theorem q8i:Tryz.prog.funcs[q5f]? =some Tryz.f8:=Tryz.func8
theorem q3r:IsFn Tryz.prog q5f:=⟨_,_,Tryz.func8,rfl⟩
abbrev q3A:FuncId:=9
theorem q9W:Tryz.prog.funcs[q3A]? =some Tryz.f9:=Tryz.func9
theorem q6m:IsFn Tryz.prog q3A:=⟨_,_,Tryz.func9,rfl⟩
abbrev q6b:FuncId:=10
theorem z4u:Tryz.prog.funcs[q6b]? =some Tryz.f10:=Tryz.func10
theorem q8E:IsFn Tryz.prog q6b:=⟨_,_,Tryz.func10,rfl⟩
abbrev q3P:FuncId:=17
theorem z0u:Tryz.prog.funcs[q3P]? =some Tryz.f17:=Tryz.func17
theorem q2z:IsFn Tryz.prog q3P:=⟨_,_,Tryz.func17,rfl⟩
theorem q2A{gl:Nat→AV}{K:Knob}:(Ctx.of Tryz.prog gl K).fn.get 17=some Tryz.f17:=q3Y.trans Tryz.func17
theorem q2C:Tryz.f17.body.isSome=true:=rfl
abbrev q5r:FuncId:=19
theorem z3l:Tryz.prog.funcs[q5r]? =some Tryz.f19:=Tryz.func19
theorem q8g:IsFn Tryz.prog q5r:=⟨_,_,Tryz.func19,rfl⟩
abbrev q6e:FuncId:=20
theorem z4y:Tryz.prog.funcs[q6e]? =some Tryz.f20:=Tryz.func20
theorem z4k:IsFn Tryz.prog q6e:=⟨_,_,Tryz.func20,rfl⟩
abbrev q3f:FuncId:=21
theorem q9q:Tryz.prog.funcs[q3f]? =some Tryz.f21:=Tryz.func21
theorem q5z{gl:Nat→AV}{K:Knob}:(Ctx.of Tryz.prog gl K).fn.get 21=some Tryz.f21:=q3Y.trans Tryz.func21
theorem q5B:Tryz.f21.body.isSome=true:=rfl
abbrev q9P:FuncId:=22
theorem x0o:Tryz.prog.funcs[q9P]? =some Tryz.f22:=Tryz.func22
theorem z3Y:IsFn Tryz.prog q9P:=⟨_,_,Tryz.func22,rfl⟩
abbrev z0U:FuncId:=23
theorem x2v:Tryz.prog.funcs[z0U]? =some Tryz.f23:=Tryz.func23
theorem x2r:IsFn Tryz.prog z0U:=⟨_,_,Tryz.func23,rfl⟩
abbrev q5i:FuncId:=24
theorem q8j:Tryz.prog.funcs[q5i]? =some Tryz.f24:=Tryz.func24
theorem q8e:IsFn Tryz.prog q5i:=⟨_,_,Tryz.func24,rfl⟩
abbrev q3M:FuncId:=25
theorem z0r:Tryz.prog.funcs[q3M]? =some Tryz.f25:=Tryz.func25
theorem z0n:IsFn Tryz.prog q3M:=⟨_,_,Tryz.func25,rfl⟩
abbrev q6f:FuncId:=26
theorem z4z:Tryz.prog.funcs[q6f]? =some Tryz.f26:=Tryz.func26
theorem q6j:IsFn Tryz.prog q6f:=⟨_,_,Tryz.func26,rfl⟩
abbrev q1H:FuncId:=27
theorem q9p:Tryz.prog.funcs[q1H]? =some Tryz.f27:=Tryz.func27
theorem q5y{gl:Nat→AV}{K:Knob}:(Ctx.of Tryz.prog gl K).fn.get 27=some Tryz.f27:=q3Y.trans Tryz.func27
theorem q5A:Tryz.f27.body.isSome=true:=rfl
abbrev q0v:FuncId:=30
theorem q2B:Tryz.prog.funcs[q0v]? =some Tryz.f30:=Tryz.func30
theorem z0o{gl:Nat→AV}{K:Knob}:(Ctx.of Tryz.prog gl K).fn.get 30=some Tryz.f30:=q3Y.trans Tryz.func30
theorem z0v:Tryz.f30.body.isSome=true:=rfl
abbrev q9S:FuncId:=31
theorem x0s:Tryz.prog.funcs[q9S]? =some Tryz.f31:=Tryz.func31
theorem q5Q:IsFn Tryz.prog q9S:=⟨_,_,Tryz.func31,rfl⟩
abbrev q5n:FuncId:=34
theorem z3h:Tryz.prog.funcs[q5n]? =some Tryz.f34:=Tryz.func34
theorem q8f:IsFn Tryz.prog q5n:=⟨_,_,Tryz.func34,rfl⟩
abbrev q5e:FuncId:=36
theorem z2X:Tryz.prog.funcs[q5e]? =some Tryz.f36:=Tryz.func36
theorem z2T:IsFn Tryz.prog q5e:=⟨_,_,Tryz.func36,rfl⟩
abbrev q7x:FuncId:=43
theorem z1Y:Tryz.prog.funcs[q7x]? =some Tryz.f43:=Tryz.func43
theorem q7B{gl:Nat→AV}{K:Knob}:(Ctx.of Tryz.prog gl K).fn.get 43=some Tryz.f43:=q3Y.trans Tryz.func43
theorem q7D:Tryz.f43.body.isSome=true:=rfl
abbrev q4V:FuncId:=48
theorem z5T:Tryz.prog.funcs[q4V]? =some Tryz.f48:=Tryz.func48
theorem z0d:IsFn Tryz.prog q4V:=⟨_,_,Tryz.func48,rfl⟩
abbrev z0V:FuncId:=50
theorem x2w:Tryz.prog.funcs[z0V]? =some Tryz.f50:=Tryz.func50
theorem z5D:IsFn Tryz.prog z0V:=⟨_,_,Tryz.func50,rfl⟩
abbrev q3O:FuncId:=51
theorem z0t:Tryz.prog.funcs[q3O]? =some Tryz.f51:=Tryz.func51
theorem q6s:IsFn Tryz.prog q3O:=⟨_,_,Tryz.func51,rfl⟩
abbrev q1N:FuncId:=52
theorem z6a:Tryz.prog.funcs[q1N]? =some Tryz.f52:=Tryz.func52
theorem q0R:IsFn Tryz.prog q1N:=⟨_,_,Tryz.func52,rfl⟩
theorem q1C{gl:Nat→AV}{K:Knob}:(Ctx.of Tryz.prog gl K).fn.get 52=some Tryz.f52:=q3Y.trans Tryz.func52
theorem q1D:Tryz.f52.body.isSome=true:=rfl
abbrev q0s:FuncId:=53
theorem z1Z:Tryz.prog.funcs[q0s]? =some Tryz.f53:=Tryz.func53
theorem q7z:IsFn Tryz.prog q0s:=⟨_,_,Tryz.func53,rfl⟩
theorem q1i{gl:Nat→AV}{K:Knob}:(Ctx.of Tryz.prog gl K).fn.get 53=some Tryz.f53:=q3Y.trans Tryz.func53
theorem q1j:Tryz.f53.body.isSome=true:=rfl
abbrev q1Z:FuncId:=54
theorem z1m:Tryz.prog.funcs[q1Z]? =some Tryz.f54:=Tryz.func54
theorem q6Z{gl:Nat→AV}{K:Knob}:(Ctx.of Tryz.prog gl K).fn.get 54=some Tryz.f54:=q3Y.trans Tryz.func54
theorem q7b:Tryz.f54.body.isSome=true:=rfl
abbrev q9R:FuncId:=55
theorem x0q:Tryz.prog.funcs[q9R]? =some Tryz.f55:=Tryz.func55
theorem z3Z:IsFn Tryz.prog q9R:=⟨_,_,Tryz.func55,rfl⟩
abbrev q9Q:FuncId:=56
theorem x0p:Tryz.prog.funcs[q9Q]? =some Tryz.f56:=Tryz.func56
theorem q0G:IsFn Tryz.prog q9Q:=⟨_,_,Tryz.func56,rfl⟩
abbrev z0X:FuncId:=57
theorem x2x:Tryz.prog.funcs[z0X]? =some Tryz.f57:=Tryz.func57
theorem z1d:IsFn Tryz.prog z0X:=⟨_,_,Tryz.func57,rfl⟩
theorem q8z{gl:Nat→AV}{K:Knob}:(Ctx.of Tryz.prog gl K).fn.get 57=some Tryz.f57:=q3Y.trans Tryz.func57
theorem q8A:Tryz.f57.body.isSome=true:=rfl
abbrev q9O:FuncId:=62
theorem x0k:Tryz.prog.funcs[q9O]? =some Tryz.f62:=Tryz.func62
theorem q9T:IsFn Tryz.prog q9O:=⟨_,_,Tryz.func62,rfl⟩
abbrev q1u:FuncId:=63
theorem q4n:Tryz.prog.funcs[q1u]? =some Tryz.f63:=Tryz.func63
theorem q2a:IsFn Tryz.prog q1u:=⟨_,_,Tryz.func63,rfl⟩
abbrev q5V:FuncId:=64
theorem z7P:Tryz.prog.funcs[q5V]? =some Tryz.f64:=Tryz.func64
theorem z7L:IsFn Tryz.prog q5V:=⟨_,_,Tryz.func64,rfl⟩
abbrev q7k:FuncId:=65
theorem z5Z:Tryz.prog.funcs[q7k]? =some Tryz.f65:=Tryz.func65
theorem z5Q:IsFn Tryz.prog q7k:=⟨_,_,Tryz.func65,rfl⟩
abbrev q5l:FuncId:=68
theorem z3f:Tryz.prog.funcs[q5l]? =some Tryz.f68:=Tryz.func68
theorem q1S:IsFn Tryz.prog q5l:=⟨_,_,Tryz.func68,rfl⟩
abbrev q5s:FuncId:=69
theorem z3m:Tryz.prog.funcs[q5s]? =some Tryz.f69:=Tryz.func69
theorem q8h:IsFn Tryz.prog q5s:=⟨_,_,Tryz.func69,rfl⟩
abbrev q6W:FuncId:=70
theorem z1n:Tryz.prog.funcs[q6W]? =some Tryz.f70:=Tryz.func70
theorem z1k{gl:Nat→AV}{K:Knob}:(Ctx.of Tryz.prog gl K).fn.get 70=some Tryz.f70:=q3Y.trans Tryz.func70
theorem z1r:Tryz.f70.body.isSome=true:=rfl
abbrev z0Z:FuncId:=71
theorem x2z:Tryz.prog.funcs[z0Z]? =some Tryz.f71:=Tryz.func71
theorem x2s:IsFn Tryz.prog z0Z:=⟨_,_,Tryz.func71,rfl⟩
abbrev q4J:FuncId:=72
theorem z1R:Tryz.prog.funcs[q4J]? =some Tryz.f72:=Tryz.func72
theorem z1M:IsFn Tryz.prog q4J:=⟨_,_,Tryz.func72,rfl⟩
abbrev q6U:FuncId:=73
theorem z1j:IsFn Tryz.prog q6U:=⟨_,_,Tryz.func73,rfl⟩
abbrev q6T:FuncId:=75
theorem x2A:Tryz.prog.funcs[q6T]? =some Tryz.f75:=Tryz.func75
theorem q1L:IsFn Tryz.prog q6T:=⟨_,_,Tryz.func75,rfl⟩
theorem q2n{gl:Nat→AV}{K:Knob}:(Ctx.of Tryz.prog gl K).fn.get 75=some Tryz.f75:=q3Y.trans Tryz.func75
theorem q2o:Tryz.f75.body.isSome=true:=rfl
abbrev z0Y:FuncId:=79
theorem x2y:Tryz.prog.funcs[z0Y]? =some Tryz.f79:=Tryz.func79
theorem q4f:IsFn Tryz.prog z0Y:=⟨_,_,Tryz.func79,rfl⟩
abbrev q1P:FuncId:=80
theorem q4E:Tryz.prog.funcs[q1P]? =some Tryz.f80:=Tryz.func80
theorem q4D:IsFn Tryz.prog q1P:=⟨_,_,Tryz.func80,rfl⟩
abbrev q8D:FuncId:=83
theorem z4x:Tryz.prog.funcs[q8D]? =some Tryz.f83:=Tryz.func83
theorem q2M{gl:Nat→AV}{K:Knob}:(Ctx.of Tryz.prog gl K).fn.get 83=some Tryz.f83:=q3Y.trans Tryz.func83
theorem q2N:Tryz.f83.body.isSome=true:=rfl
abbrev q5Z:FuncId:=85
theorem z4s:Tryz.prog.funcs[q5Z]? =some Tryz.f85:=Tryz.func85
theorem z4j:IsFn Tryz.prog q5Z:=⟨_,_,Tryz.func85,rfl⟩
theorem q6k{gl:Nat→AV}{K:Knob}:(Ctx.of Tryz.prog gl K).fn.get 85=some Tryz.f85:=q3Y.trans Tryz.func85
theorem q6l:Tryz.f85.body.isSome=true:=rfl
abbrev q1A:FuncId:=86
theorem q8X:Tryz.prog.funcs[q1A]? =some Tryz.f86:=Tryz.func86
theorem q0D:IsFn Tryz.prog q1A:=⟨_,_,Tryz.func86,rfl⟩
theorem q0t{gl:Nat→AV}{K:Knob}:(Ctx.of Tryz.prog gl K).fn.get 86=some Tryz.f86:=q3Y.trans Tryz.func86
theorem q0u:Tryz.f86.body.isSome=true:=rfl
abbrev q9l:FuncId:=90
theorem x7w:Tryz.prog.funcs[q9l]? =some Tryz.f90:=Tryz.func90
theorem x7v:IsFn Tryz.prog q9l:=⟨_,_,Tryz.func90,rfl⟩
abbrev z1b:FuncId:=91
theorem x2C:Tryz.prog.funcs[z1b]? =some Tryz.f91:=Tryz.func91
theorem z5E:IsFn Tryz.prog z1b:=⟨_,_,Tryz.func91,rfl⟩
abbrev q0k:FuncId:=92
theorem x0n:Tryz.prog.funcs[q0k]? =some Tryz.f92:=Tryz.func92
theorem q0g:IsFn Tryz.prog q0k:=⟨_,_,Tryz.func92,rfl⟩
theorem q0T{gl:Nat→AV}{K:Knob}:(Ctx.of Tryz.prog gl K).fn.get 92=some Tryz.f92:=q3Y.trans Tryz.func92
theorem q0U:Tryz.f92.body.isSome=true:=rfl
abbrev q7j:FuncId:=93
theorem z5Y:Tryz.prog.funcs[q7j]? =some Tryz.f93:=Tryz.func93
theorem q4Y:IsFn Tryz.prog q7j:=⟨_,_,Tryz.func93,rfl⟩
abbrev q6V:FuncId:=96
theorem z1l:Tryz.prog.funcs[q6V]? =some Tryz.f96:=Tryz.func96
theorem q6Y{gl:Nat→AV}{K:Knob}:(Ctx.of Tryz.prog gl K).fn.get 96=some Tryz.f96:=q3Y.trans Tryz.func96
theorem q7a:Tryz.f96.body.isSome=true:=rfl
abbrev q5g:FuncId:=97
theorem z2Z:Tryz.prog.funcs[q5g]? =some Tryz.f97:=Tryz.func97
theorem q8d:IsFn Tryz.prog q5g:=⟨_,_,Tryz.func97,rfl⟩
abbrev q3N:FuncId:=98
theorem z0s:Tryz.prog.funcs[q3N]? =some Tryz.f98:=Tryz.func98
theorem q6r:IsFn Tryz.prog q3N:=⟨_,_,Tryz.func98,rfl⟩
abbrev q6c:FuncId:=99
theorem z4v:Tryz.prog.funcs[q6c]? =some Tryz.f99:=Tryz.func99
theorem q6h:IsFn Tryz.prog q6c:=⟨_,_,Tryz.func99,rfl⟩
theorem q8H{gl:Nat→AV}{K:Knob}:(Ctx.of Tryz.prog gl K).fn.get 99=some Tryz.f99:=q3Y.trans Tryz.func99
theorem q8K:Tryz.f99.body.isSome=true:=rfl
abbrev z2J:FuncId:=101
theorem x4z:Tryz.prog.funcs[z2J]? =some Tryz.f101:=Tryz.func101
theorem x4q:IsFn Tryz.prog z2J:=⟨_,_,Tryz.func101,rfl⟩
abbrev q1B:FuncId:=102
theorem q4S:Tryz.prog.funcs[q1B]? =some Tryz.f102:=Tryz.func102
theorem q4R:IsFn Tryz.prog q1B:=⟨_,_,Tryz.func102,rfl⟩
abbrev q1K:FuncId:=103
theorem z4n:Tryz.prog.funcs[q1K]? =some Tryz.f103:=Tryz.func103
theorem z4h:IsFn Tryz.prog q1K:=⟨_,_,Tryz.func103,rfl⟩
abbrev q7X:FuncId:=104
theorem z7z:Tryz.prog.funcs[q7X]? =some Tryz.f104:=Tryz.func104
theorem x4r:IsFn Tryz.prog q7X:=⟨_,_,Tryz.func104,rfl⟩
abbrev q1k:FuncId:=105
theorem q3R:Tryz.prog.funcs[q1k]? =some Tryz.f105:=Tryz.func105
theorem q3Q:IsFn Tryz.prog q1k:=⟨_,_,Tryz.func105,rfl⟩
abbrev q3V:FuncId:=106
theorem z4m:Tryz.prog.funcs[q3V]? =some Tryz.f106:=Tryz.func106
theorem z4g:IsFn Tryz.prog q3V:=⟨_,_,Tryz.func106,rfl⟩
abbrev q1y:FuncId:=107
theorem q4N:Tryz.prog.funcs[q1y]? =some Tryz.f107:=Tryz.func107
theorem q2j:IsFn Tryz.prog q1y:=⟨_,_,Tryz.func107,rfl⟩
abbrev z2K:FuncId:=108
theorem x4A:Tryz.prog.funcs[z2K]? =some Tryz.f108:=Tryz.func108
theorem x4s:IsFn Tryz.prog z2K:=⟨_,_,Tryz.func108,rfl⟩
abbrev q4k:FuncId:=109
theorem z1q:Tryz.prog.funcs[q4k]? =some Tryz.f109:=Tryz.func109
theorem q6X:IsFn Tryz.prog q4k:=⟨_,_,Tryz.func109,rfl⟩
abbrev q4X:FuncId:=110
theorem z6e:Tryz.prog.funcs[q4X]? =some Tryz.f110:=Tryz.func110
theorem q7p:IsFn Tryz.prog q4X:=⟨_,_,Tryz.func110,rfl⟩
abbrev q7v:FuncId:=111
theorem z1W:Tryz.prog.funcs[q7v]? =some Tryz.f111:=Tryz.func111
theorem z1N{gl:Nat→AV}{K:Knob}:(Ctx.of Tryz.prog gl K).fn.get 111=some Tryz.f111:=q3Y.trans Tryz.func111
theorem z2b:Tryz.f111.body.isSome=true:=rfl
abbrev q7w:FuncId:=112
theorem z1X:Tryz.prog.funcs[q7w]? =some Tryz.f112:=Tryz.func112
theorem z1O{gl:Nat→AV}{K:Knob}:(Ctx.of Tryz.prog gl K).fn.get 112=some Tryz.f112:=q3Y.trans Tryz.func112
theorem z2c:Tryz.f112.body.isSome=true:=rfl
abbrev q2E:FuncId:=113
theorem q8p:Tryz.prog.funcs[q2E]? =some Tryz.f113:=Tryz.func113
theorem q8o:IsFn Tryz.prog q2E:=⟨_,_,Tryz.func113,rfl⟩
abbrev q9m:FuncId:=117
theorem x7x:Tryz.prog.funcs[q9m]? =some Tryz.f117:=Tryz.func117
theorem z1L:IsFn Tryz.prog q9m:=⟨_,_,Tryz.func117,rfl⟩
abbrev q6d:FuncId:=118
theorem z4w:Tryz.prog.funcs[q6d]? =some Tryz.f118:=Tryz.func118
theorem q6i:IsFn Tryz.prog q6d:=⟨_,_,Tryz.func118,rfl⟩
abbrev q6J:FuncId:=119
theorem z5e:Tryz.prog.funcs[q6J]? =some Tryz.f119:=Tryz.func119
theorem q4t:IsFn Tryz.prog q6J:=⟨_,_,Tryz.func119,rfl⟩
abbrev q4i:FuncId:=120
theorem z1o:Tryz.prog.funcs[q4i]? =some Tryz.f120:=Tryz.func120
theorem q4l:IsFn Tryz.prog q4i:=⟨_,_,Tryz.func120,rfl⟩
abbrev q3K:FuncId:=121
theorem z0p:Tryz.prog.funcs[q3K]? =some Tryz.f121:=Tryz.func121
theorem z0m:IsFn Tryz.prog q3K:=⟨_,_,Tryz.func121,rfl⟩
abbrev z6Y:FuncId:=125
theorem E_dom_All:Tryz.prog.funcs[z6Y]? =some Tryz.f125:=Tryz.func125
theorem I_dom_All:IsFn Tryz.prog z6Y:=⟨_,_,Tryz.func125,rfl⟩
abbrev q0H:FuncId:=126
theorem q1t:Tryz.prog.funcs[q0H]? =some Tryz.f126:=Tryz.func126
theorem q8k:IsFn Tryz.prog q0H:=⟨_,_,Tryz.func126,rfl⟩
abbrev q7Z:FuncId:=127
theorem z7Q:Tryz.prog.funcs[q7Z]? =some Tryz.f127:=Tryz.func127
theorem z1h:IsFn Tryz.prog q7Z:=⟨_,_,Tryz.func127,rfl⟩
abbrev z1a:FuncId:=128
theorem x2B:Tryz.prog.funcs[z1a]? =some Tryz.f128:=Tryz.func128
theorem z1e:IsFn Tryz.prog z1a:=⟨_,_,Tryz.func128,rfl⟩
abbrev q3z:FuncId:=129
theorem q9V:Tryz.prog.funcs[q3z]? =some Tryz.f129:=Tryz.func129
theorem q9U:IsFn Tryz.prog q3z:=⟨_,_,Tryz.func129,rfl⟩
abbrev q9G:FuncId:=130
theorem x4D:Tryz.prog.funcs[q9G]? =some Tryz.f130:=Tryz.func130
theorem z7w:IsFn Tryz.prog q9G:=⟨_,_,Tryz.func130,rfl⟩
abbrev q1E:FuncId:=131
theorem q3E:Tryz.prog.funcs[q1E]? =some Tryz.f131:=Tryz.func131
theorem q0W:IsFn Tryz.prog q1E:=⟨_,_,Tryz.func131,rfl⟩
abbrev q5U:FuncId:=132
theorem z7O:Tryz.prog.funcs[q5U]? =some Tryz.f132:=Tryz.func132
theorem z7K:IsFn Tryz.prog q5U:=⟨_,_,Tryz.func132,rfl⟩
abbrev z5C:FuncId:=133
theorem x2D:Tryz.prog.funcs[z5C]? =some Tryz.f133:=Tryz.func133
theorem x2u{gl:Nat→AV}{K:Knob}:(Ctx.of Tryz.prog gl K).fn.get 133=some Tryz.f133:=q3Y.trans Tryz.func133
theorem x2G:Tryz.f133.body.isSome=true:=rfl
abbrev q5P:FuncId:=134
theorem x0m:Tryz.prog.funcs[q5P]? =some Tryz.f134:=Tryz.func134
theorem q0P:IsFn Tryz.prog q5P:=⟨_,_,Tryz.func134,rfl⟩
abbrev q7i:FuncId:=135
theorem z5W:Tryz.prog.funcs[q7i]? =some Tryz.f135:=Tryz.func135
theorem q2G:IsFn Tryz.prog q7i:=⟨_,_,Tryz.func135,rfl⟩
abbrev q8S:FuncId:=136
theorem z8k:Tryz.prog.funcs[q8S]? =some Tryz.f136:=Tryz.func136
theorem z2o:IsFn Tryz.prog q8S:=⟨_,_,Tryz.func136,rfl⟩
abbrev q0y:FuncId:=137
theorem z8j:Tryz.prog.funcs[q0y]? =some Tryz.f137:=Tryz.func137
theorem z2n:IsFn Tryz.prog q0y:=⟨_,_,Tryz.func137,rfl⟩
theorem q0I{gl:Nat→AV}{K:Knob}:(Ctx.of Tryz.prog gl K).fn.get 137=some Tryz.f137:=q3Y.trans Tryz.func137
theorem q0J:Tryz.f137.body.isSome=true:=rfl
abbrev q3W:FuncId:=138
theorem z4q:Tryz.prog.funcs[q3W]? =some Tryz.f138:=Tryz.func138
theorem q6g:IsFn Tryz.prog q3W:=⟨_,_,Tryz.func138,rfl⟩
abbrev q8a:FuncId:=139
theorem z2Y:Tryz.prog.funcs[q8a]? =some Tryz.f139:=Tryz.func139
theorem q3t{gl:Nat→AV}{K:Knob}:(Ctx.of Tryz.prog gl K).fn.get 139=some Tryz.f139:=q3Y.trans Tryz.func139
theorem q3w:Tryz.f139.body.isSome=true:=rfl
abbrev q5h:FuncId:=140
theorem z3a:Tryz.prog.funcs[q5h]? =some Tryz.f140:=Tryz.func140
theorem q5t:IsFn Tryz.prog q5h:=⟨_,_,Tryz.func140,rfl⟩
abbrev q6I:FuncId:=141
theorem z5d:Tryz.prog.funcs[q6I]? =some Tryz.f141:=Tryz.func141
theorem z4Y:IsFn Tryz.prog q6I:=⟨_,_,Tryz.func141,rfl⟩
abbrev q7u:FuncId:=142
theorem z1V:Tryz.prog.funcs[q7u]? =some Tryz.f142:=Tryz.func142
theorem q2W{gl:Nat→AV}{K:Knob}:(Ctx.of Tryz.prog gl K).fn.get 142=some Tryz.f142:=q3Y.trans Tryz.func142
theorem q2X:Tryz.f142.body.isSome=true:=rfl
abbrev q7n:FuncId:=143
theorem z6d:Tryz.prog.funcs[q7n]? =some Tryz.f143:=Tryz.func143
theorem z0e:IsFn Tryz.prog q7n:=⟨_,_,Tryz.func143,rfl⟩
theorem z0g{gl:Nat→AV}{K:Knob}:(Ctx.of Tryz.prog gl K).fn.get 143=some Tryz.f143:=q3Y.trans Tryz.func143
theorem z0i:Tryz.f143.body.isSome=true:=rfl
abbrev q7m:FuncId:=144
theorem z6c:Tryz.prog.funcs[q7m]? =some Tryz.f144:=Tryz.func144
theorem q7o:IsFn Tryz.prog q7m:=⟨_,_,Tryz.func144,rfl⟩
theorem z0f{gl:Nat→AV}{K:Knob}:(Ctx.of Tryz.prog gl K).fn.get 144=some Tryz.f144:=q3Y.trans Tryz.func144
theorem z0h:Tryz.f144.body.isSome=true:=rfl
abbrev q9N:FuncId:=145
theorem x0i:Tryz.prog.funcs[q9N]? =some Tryz.f145:=Tryz.func145
theorem x0e:IsFn Tryz.prog q9N:=⟨_,_,Tryz.func145,rfl⟩
abbrev q9M:FuncId:=146
theorem x0h:Tryz.prog.funcs[q9M]? =some Tryz.f146:=Tryz.func146
theorem q7M:IsFn Tryz.prog q9M:=⟨_,_,Tryz.func146,rfl⟩
abbrev q7K:FuncId:=147
theorem x0j:Tryz.prog.funcs[q7K]? =some Tryz.f147:=Tryz.func147
theorem x0f:IsFn Tryz.prog q7K:=⟨_,_,Tryz.func147,rfl⟩
abbrev q8R:FuncId:=148
theorem z8i:Tryz.prog.funcs[q8R]? =some Tryz.f148:=Tryz.func148
theorem z8h:IsFn Tryz.prog q8R:=⟨_,_,Tryz.func148,rfl⟩
abbrev z2I:FuncId:=149
theorem x4y:Tryz.prog.funcs[z2I]? =some Tryz.f149:=Tryz.func149
theorem z2Q:IsFn Tryz.prog z2I:=⟨_,_,Tryz.func149,rfl⟩
abbrev z2L:FuncId:=150
theorem x4B:Tryz.prog.funcs[z2L]? =some Tryz.f150:=Tryz.func150
theorem z2R:IsFn Tryz.prog z2L:=⟨_,_,Tryz.func150,rfl⟩
abbrev q8T:FuncId:=151
theorem z8l:Tryz.prog.funcs[q8T]? =some Tryz.f151:=Tryz.func151
theorem z2p:IsFn Tryz.prog q8T:=⟨_,_,Tryz.func151,rfl⟩
abbrev q1x:FuncId:=152
theorem q4y:Tryz.prog.funcs[q1x]? =some Tryz.f152:=Tryz.func152
theorem q4x:IsFn Tryz.prog q1x:=⟨_,_,Tryz.func152,rfl⟩
abbrev q1I:FuncId:=153
theorem q5E:Tryz.prog.funcs[q1I]? =some Tryz.f153:=Tryz.func153
theorem q5D:IsFn Tryz.prog q1I:=⟨_,_,Tryz.func153,rfl⟩
abbrev q5o:FuncId:=154
theorem z3i:Tryz.prog.funcs[q5o]? =some Tryz.f154:=Tryz.func154
theorem z2V:IsFn Tryz.prog q5o:=⟨_,_,Tryz.func154,rfl⟩
abbrev q5p:FuncId:=155
theorem z3j:Tryz.prog.funcs[q5p]? =some Tryz.f155:=Tryz.func155
theorem z2W:IsFn Tryz.prog q5p:=⟨_,_,Tryz.func155,rfl⟩
abbrev q5k:FuncId:=156
theorem z3e:Tryz.prog.funcs[q5k]? =some Tryz.f156:=Tryz.func156
theorem q2w:IsFn Tryz.prog q5k:=⟨_,_,Tryz.func156,rfl⟩
abbrev q5Y:FuncId:=157
theorem z4r:Tryz.prog.funcs[q5Y]? =some Tryz.f157:=Tryz.func157
theorem z4i:IsFn Tryz.prog q5Y:=⟨_,_,Tryz.func157,rfl⟩
abbrev q4j:FuncId:=158
theorem z1p:Tryz.prog.funcs[q4j]? =some Tryz.f158:=Tryz.func158
theorem q4m:IsFn Tryz.prog q4j:=⟨_,_,Tryz.func158,rfl⟩
abbrev z2P:FuncId:=172
theorem x4G:Tryz.prog.funcs[z2P]? =some Tryz.f172:=Tryz.func172
theorem x4u:IsFn Tryz.prog z2P:=⟨_,_,Tryz.func172,rfl⟩
abbrev q2v:FuncId:=173
theorem q4h:Tryz.prog.funcs[q2v]? =some Tryz.f173:=Tryz.func173
theorem q4g:IsFn Tryz.prog q2v:=⟨_,_,Tryz.func173,rfl⟩
abbrev q0Q:FuncId:=174
theorem q8W:Tryz.prog.funcs[q0Q]? =some Tryz.f174:=Tryz.func174
theorem q8U:IsFn Tryz.prog q0Q:=⟨_,_,Tryz.func174,rfl⟩
abbrev z2N:FuncId:=175
theorem x4E:Tryz.prog.funcs[z2N]? =some Tryz.f175:=Tryz.func175
theorem z7x:IsFn Tryz.prog z2N:=⟨_,_,Tryz.func175,rfl⟩
abbrev q2q:FuncId:=176
theorem z5c:Tryz.prog.funcs[q2q]? =some Tryz.f176:=Tryz.func176
theorem z4X:IsFn Tryz.prog q2q:=⟨_,_,Tryz.func176,rfl⟩
abbrev z2M:FuncId:=177
theorem x4C:Tryz.prog.funcs[z2M]? =some Tryz.f177:=Tryz.func177
theorem z2S:IsFn Tryz.prog z2M:=⟨_,_,Tryz.func177,rfl⟩
abbrev q6H:FuncId:=178
theorem z5b:Tryz.prog.funcs[q6H]? =some Tryz.f178:=Tryz.func178
theorem q4s:IsFn Tryz.prog q6H:=⟨_,_,Tryz.func178,rfl⟩
abbrev q1M:FuncId:=179
theorem z5X:Tryz.prog.funcs[q1M]? =some Tryz.f179:=Tryz.func179
theorem q4Z{gl:Nat→AV}{K:Knob}:(Ctx.of Tryz.prog gl K).fn.get 179=some Tryz.f179:=q3Y.trans Tryz.func179
theorem q5a:Tryz.f179.body.isSome=true:=rfl
abbrev q6G:FuncId:=180
theorem z5a:Tryz.prog.funcs[q6G]? =some Tryz.f180:=Tryz.func180
theorem q9n:IsFn Tryz.prog q6G:=⟨_,_,Tryz.func180,rfl⟩
theorem q4u{gl:Nat→AV}{K:Knob}:(Ctx.of Tryz.prog gl K).fn.get 180=some Tryz.f180:=q3Y.trans Tryz.func180
theorem q4w:Tryz.f180.body.isSome=true:=rfl
abbrev q3U:FuncId:=181
theorem z4l:Tryz.prog.funcs[q3U]? =some Tryz.f181:=Tryz.func181
theorem z4f:IsFn Tryz.prog q3U:=⟨_,_,Tryz.func181,rfl⟩
abbrev q3L:FuncId:=182
theorem z0q:Tryz.prog.funcs[q3L]? =some Tryz.f182:=Tryz.func182
theorem q2y:IsFn Tryz.prog q3L:=⟨_,_,Tryz.func182,rfl⟩
abbrev q4W:FuncId:=183
theorem z5U:Tryz.prog.funcs[q4W]? =some Tryz.f183:=Tryz.func183
theorem z5O:IsFn Tryz.prog q4W:=⟨_,_,Tryz.func183,rfl⟩
abbrev q7h:FuncId:=184
theorem z5V:Tryz.prog.funcs[q7h]? =some Tryz.f184:=Tryz.func184
theorem z5P:IsFn Tryz.prog q7h:=⟨_,_,Tryz.func184,rfl⟩
abbrev q8C:FuncId:=185
theorem z4p:Tryz.prog.funcs[q8C]? =some Tryz.f185:=Tryz.func185
theorem q8G{gl:Nat→AV}{K:Knob}:(Ctx.of Tryz.prog gl K).fn.get 185=some Tryz.f185:=q3Y.trans Tryz.func185
theorem q8J:Tryz.f185.body.isSome=true:=rfl
abbrev q4L:FuncId:=186
theorem z1T:Tryz.prog.funcs[q4L]? =some Tryz.f186:=Tryz.func186
theorem q2V:IsFn Tryz.prog q4L:=⟨_,_,Tryz.func186,rfl⟩
abbrev q4M:FuncId:=187
theorem z1U:Tryz.prog.funcs[q4M]? =some Tryz.f187:=Tryz.func187
theorem q7A{gl:Nat→AV}{K:Knob}:(Ctx.of Tryz.prog gl K).fn.get 187=some Tryz.f187:=q3Y.trans Tryz.func187
theorem q7C:Tryz.f187.body.isSome=true:=rfl
abbrev q4K:FuncId:=188
theorem z1S:Tryz.prog.funcs[q4K]? =some Tryz.f188:=Tryz.func188
theorem q2i:IsFn Tryz.prog q4K:=⟨_,_,Tryz.func188,rfl⟩
abbrev q8c:FuncId:=189
theorem z3d:Tryz.prog.funcs[q8c]? =some Tryz.f189:=Tryz.func189
theorem q3v{gl:Nat→AV}{K:Knob}:(Ctx.of Tryz.prog gl K).fn.get 189=some Tryz.f189:=q3Y.trans Tryz.func189
theorem q3y:Tryz.f189.body.isSome=true:=rfl
abbrev q8b:FuncId:=190
theorem z3c:Tryz.prog.funcs[q8b]? =some Tryz.f190:=Tryz.func190
theorem q3u{gl:Nat→AV}{K:Knob}:(Ctx.of Tryz.prog gl K).fn.get 190=some Tryz.f190:=q3Y.trans Tryz.func190
theorem q3x:Tryz.f190.body.isSome=true:=rfl
abbrev q5T:FuncId:=191
theorem z7M:Tryz.prog.funcs[q5T]? =some Tryz.f191:=Tryz.func191
theorem z7J:IsFn Tryz.prog q5T:=⟨_,_,Tryz.func191,rfl⟩
abbrev q7L:FuncId:=192
theorem x0r:Tryz.prog.funcs[q7L]? =some Tryz.f192:=Tryz.func192
theorem x0g:IsFn Tryz.prog q7L:=⟨_,_,Tryz.func192,rfl⟩
abbrev q5q:FuncId:=193
theorem z3k:Tryz.prog.funcs[q5q]? =some Tryz.f193:=Tryz.func193
theorem q3s:IsFn Tryz.prog q5q:=⟨_,_,Tryz.func193,rfl⟩
abbrev z9F:FuncId:=200
theorem E_dom_of:Tryz.prog.funcs[z9F]? =some Tryz.f200:=Tryz.func200
theorem I_dom_of:IsFn Tryz.prog z9F:=⟨_,_,Tryz.func200,rfl⟩
abbrev q1R:FuncId:=202
theorem q3e:Tryz.prog.funcs[q1R]? =some Tryz.f202:=Tryz.func202
theorem q3d:IsFn Tryz.prog q1R:=⟨_,_,Tryz.func202,rfl⟩
abbrev q5x:FuncId:=203
theorem q9o:IsFn Tryz.prog q5x:=⟨_,_,Tryz.func203,rfl⟩
abbrev q0S:FuncId:=204
theorem x0l:Tryz.prog.funcs[q0S]? =some Tryz.f204:=Tryz.func204
theorem q1l:IsFn Tryz.prog q0S:=⟨_,_,Tryz.func204,rfl⟩
theorem q1m{gl:Nat→AV}{K:Knob}:(Ctx.of Tryz.prog gl K).fn.get 204=some Tryz.f204:=q3Y.trans Tryz.func204
theorem q1n:Tryz.f204.body.isSome=true:=rfl
abbrev q1Y:FuncId:=205
theorem z7N:Tryz.prog.funcs[q1Y]? =some Tryz.f205:=Tryz.func205
theorem q5W{gl:Nat→AV}{K:Knob}:(Ctx.of Tryz.prog gl K).fn.get 205=some Tryz.f205:=q3Y.trans Tryz.func205
theorem q5X:Tryz.f205.body.isSome=true:=rfl
abbrev q7l:FuncId:=206
theorem z6b:Tryz.prog.funcs[q7l]? =some Tryz.f206:=Tryz.func206
theorem z5R:IsFn Tryz.prog q7l:=⟨_,_,Tryz.func206,rfl⟩
theorem z5S{gl:Nat→AV}{K:Knob}:(Ctx.of Tryz.prog gl K).fn.get 206=some Tryz.f206:=q3Y.trans Tryz.func206
theorem z6f:Tryz.f206.body.isSome=true:=rfl
abbrev q8B:FuncId:=207
theorem z4o:Tryz.prog.funcs[q8B]? =some Tryz.f207:=Tryz.func207
theorem q8F{gl:Nat→AV}{K:Knob}:(Ctx.of Tryz.prog gl K).fn.get 207=some Tryz.f207:=q3Y.trans Tryz.func207
theorem q8I:Tryz.f207.body.isSome=true:=rfl
abbrev q7y:FuncId:=208
theorem z2a:Tryz.prog.funcs[q7y]? =some Tryz.f208:=Tryz.func208
theorem z1P{gl:Nat→AV}{K:Knob}:(Ctx.of Tryz.prog gl K).fn.get 208=some Tryz.f208:=q3Y.trans Tryz.func208
theorem z2d:Tryz.f208.body.isSome=true:=rfl
abbrev q5j:FuncId:=209
theorem z3b:Tryz.prog.funcs[q5j]? =some Tryz.f209:=Tryz.func209
theorem z2U:IsFn Tryz.prog q5j:=⟨_,_,Tryz.func209,rfl⟩
abbrev z1c:FuncId:=211
theorem x2E:Tryz.prog.funcs[z1c]? =some Tryz.f211:=Tryz.func211
theorem x2t:IsFn Tryz.prog z1c:=⟨_,_,Tryz.func211,rfl⟩
abbrev q9I:FuncId:=212
theorem x4H:Tryz.prog.funcs[q9I]? =some Tryz.f212:=Tryz.func212
theorem x4v:IsFn Tryz.prog q9I:=⟨_,_,Tryz.func212,rfl⟩
abbrev q6K:FuncId:=213
theorem z5f:Tryz.prog.funcs[q6K]? =some Tryz.f213:=Tryz.func213
theorem z4Z:IsFn Tryz.prog q6K:=⟨_,_,Tryz.func213,rfl⟩
abbrev q2O:FuncId:=214
theorem q8Y:Tryz.prog.funcs[q2O]? =some Tryz.f214:=Tryz.func214
theorem q8V:IsFn Tryz.prog q2O:=⟨_,_,Tryz.func214,rfl⟩
abbrev q1s:FuncId:=215
theorem q8m:Tryz.prog.funcs[q1s]? =some Tryz.f215:=Tryz.func215
theorem q8l:IsFn Tryz.prog q1s:=⟨_,_,Tryz.func215,rfl⟩
abbrev q7t:FuncId:=233
theorem z1Q:Tryz.prog.funcs[q7t]? =some Tryz.f233:=Tryz.func233
end Go.Ax
