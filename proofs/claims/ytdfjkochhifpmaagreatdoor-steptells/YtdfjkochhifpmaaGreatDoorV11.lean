import Derived.Test.YtdfjkochhifpmaaGreatDoorV10
set_option linter.unusedSimpArgs false
set_option linter.unusedVariables false
noncomputable section
namespace Go.Ax
open Go.Proofs
attribute [local irreducible] TW TO CallsT PureC
variable{F:Nat→Option Obj}{gl:Nat→AV}{K:Knob}
theorem may_qt (hP : POk Tryz.prog F gl K) (h:Hp) (t:Sl LType) (k:Nat) (v:AV) (sz:List Int) (hr:RdI h v sz) (hk:k<t.list.length) (hsz:sz.length=k) (hs:∀n∈sz,0≤n∧n≤1000) (hlt:t.list.length<1000000) (hp:∀x∈t.list,x.parts.list.length<900000):
    Qt Tryz.prog F h (.tup [.int .i64 (mayS t.list k sz).1,.bool (mayS t.list k sz).2]) z2J [t.av LType.cells,.int .i64 (k:Nat),v]:=by
  obtain⟨x,hx⟩:∃x,t.list[k]? =some x:=⟨_,Y0n hk⟩
  have hpx:=hp x (Y0N hx)
  have hav:=q0j (e:=LType.cells) (show 0<t.list.length by omega)
  have hw0:=Y2M h
  refine Y2y hP q0f x4z rfl rfl ?_
  refine Y2v (Y2A hP (by simp<;>rfl) ?_)
  dsimp only[goK,q0a,q0c,q0d]
  refine Y2v (Y2A hP (by simp[hx,hav]<;>rfl) ?_)
  dsimp only[goK,q0a,q0c,q0d]
  refine Y2v (Y2A hP (by simp<;>rfl) ?_)
  dsimp only[goK,q0a,q0c,q0d]
  refine Y2O hP x0e (x6o hP x) (by simp) rfl rfl rfl rfl ?_
  refine Y2B hP (by simp<;>rfl) ?_
  dsimp only[goK,q0a,q0c,q0d]
  refine Y2U (fun g=>g.get h.nx=some (.cells z4J [t.av LType.cells])∧g.get (h.nx+1)=some (.cells q6q x.cells)∧g.nx=h.nx+2∧Wid h g) ⟨by simp[hav],by simp,by simp,by(repeat' first|exact Y2M _|refine Wid.new ?_ _|refine Wid.put ?_ (by simp) _)⟩ fun g hg=> ?_
  obtain⟨g1,g2,g3,g4⟩:=hg
  dsimp only[z4J,q6q]at g1 g2
  rw[hav]at g1
  simp only[LType.cells]at g2
  cases hpl:q2Q x with
  | false =>
    by_cases h1:x.kind=1
    · repeat' first|refine Y2v ?_|refine Y2x ?_|refine Y2s ?_|refine Y2I hP rfl ?_|(refine Y2A hP (by simp[h1,hpl,g1,g2,g3]<;>rfl) ?_;dsimp only[goK])|simp only[q0a,q0c,q0d,↓reduceIte,Nat.reduceEqDiff,reduceCtorEq]
      refine Y2u ⟨.inr rfl,_,_,rfl,rfl,?_⟩
      refine⟨?_,?_⟩
      ·simp[q0q,mayS,hx,h1,hpl]
      ·repeat' first|exact g4
    · by_cases h2:x.kind=2
      · repeat' first|refine Y2v ?_|refine Y2x ?_|refine Y2I hP rfl ?_|refine Y2J hP rfl ?_|(refine Y2A hP (by simp[h1,h2,hpl,g1,g2,g3]<;>rfl) ?_;dsimp only[goK])|(refine TO.left ?_ rfl rfl ?_;(focus(simp;done));refine Y2B hP (by simp[h1,h2,hpl,g1,g2,g3]<;>rfl) ?_;dsimp only[goK])|simp only[q0a,q0c,q0d,↓reduceIte,Nat.reduceEqDiff,reduceCtorEq]
        refine Y2u ⟨.inr rfl,_,_,rfl,rfl,?_⟩
        refine⟨?_,?_⟩
        ·simp[q0q,mayS,hx,h1,h2,hpl]
        ·repeat' first|exact g4
      · by_cases h3:x.kind=3
        · obtain⟨v',k',happ,hrd,hget,hnx⟩:=x8x (h:=g.new (.cells q0x [.int .i64 x.elem])) (q1a (gl:=gl) (K:=K)) (q:=g.nx) (x:=x.elem) (by simp) (by simp) (x7L _ x.parts) (by omega)
          dsimp only[q0m,q0x]at happ
          rw[g3]at happ
          repeat' first|refine Y2v ?_|refine Y2x ?_|refine Y2I hP rfl ?_|refine Y2J hP rfl ?_|(refine Y2A hP (by simp[h1,h2,h3,hpl,g1,g2,g3,happ]<;>rfl) ?_;dsimp only[goK])|(refine TO.left ?_ rfl rfl ?_;(focus(simp;done));refine Y2B hP (by simp[h1,h2,h3,hpl,g1,g2,g3,happ]<;>rfl) ?_;dsimp only[goK])|simp only[q0a,q0c,q0d,↓reduceIte,Nat.reduceEqDiff,reduceCtorEq]
          refine Y2u ⟨.inr rfl,_,_,rfl,rfl,?_⟩
          refine⟨?_,?_⟩
          ·simp[q0q,mayS,hx,h1,h2,h3,hpl]
          ·exact Wid.trans (g4.new _) ⟨hnx,hget⟩
        · by_cases h4:x.kind=4
          · repeat' first|refine Y2v ?_|refine Y2x ?_|refine Y2I hP rfl ?_|refine Y2J hP rfl ?_|(refine Y2A hP (by simp[h1,h2,h3,h4,hpl,g1,g2,g3]<;>rfl) ?_;dsimp only[goK])|(refine TO.left ?_ rfl rfl ?_;(focus(simp;done));refine Y2B hP (by simp[h1,h2,h3,h4,hpl,g1,g2,g3]<;>rfl) ?_;dsimp only[goK])|simp only[q0a,q0c,q0d,↓reduceIte,Nat.reduceEqDiff,reduceCtorEq]
            refine Y2u ⟨.inr rfl,_,_,rfl,rfl,?_⟩
            refine⟨?_,?_⟩
            ·simp[q0q,mayS,hx,h1,h2,h3,h4,hpl]
            ·repeat' first|exact g4
          · by_cases h5:x.kind=5
            · repeat' first|refine Y2v ?_|refine Y2x ?_|refine Y2I hP rfl ?_|refine Y2J hP rfl ?_|(refine Y2A hP (by simp[h1,h2,h3,h4,h5,hpl,g1,g2,g3]<;>rfl) ?_;dsimp only[goK])|(refine TO.left ?_ rfl rfl ?_;(focus(simp;done));refine Y2B hP (by simp[h1,h2,h3,h4,h5,hpl,g1,g2,g3]<;>rfl) ?_;dsimp only[goK])|simp only[q0a,q0c,q0d,↓reduceIte,Nat.reduceEqDiff,reduceCtorEq]
              refine Y2u ⟨.inr rfl,_,_,rfl,rfl,?_⟩
              refine⟨?_,?_⟩
              ·simp[q0q,mayS,hx,h1,h2,h3,h4,h5,hpl]
              ·repeat' first|exact g4
            · repeat' first|refine Y2v ?_|refine Y2x ?_|refine Y2J hP rfl ?_|(refine Y2A hP (by simp[h1,h2,h3,h4,h5,hpl,g1,g2,g3]<;>rfl) ?_;dsimp only[goK])|simp only[q0a,q0c,q0d,↓reduceIte,Nat.reduceEqDiff,reduceCtorEq]
              refine Y2u ⟨.inr rfl,_,_,rfl,rfl,?_⟩
              refine⟨?_,?_⟩
              ·simp[q0q,mayS,hx,h1,h2,h3,h4,h5,hpl]
              ·repeat' first|exact g4
  | true =>
    by_cases h1:x.kind=1
    · repeat' first|refine Y2v ?_|refine Y2x ?_|refine Y2s ?_|refine Y2I hP rfl ?_|(refine Y2A hP (by simp[h1,hpl,g1,g2,g3]<;>rfl) ?_;dsimp only[goK])|simp only[q0a,q0c,q0d,↓reduceIte,Nat.reduceEqDiff,reduceCtorEq]
      refine Y2u ⟨.inr rfl,_,_,rfl,rfl,?_⟩
      refine⟨?_,?_⟩
      ·simp[q0q,mayS,hx,h1,hpl]
      ·repeat' first|exact g4
    · by_cases h2 : x.kind=2
      · repeat' first|refine Y2v ?_|refine Y2x ?_|refine Y2I hP rfl ?_|refine Y2J hP rfl ?_|(refine Y2A hP (by simp[h1,h2,hpl,g1,g2,g3]<;>rfl) ?_;dsimp only[goK])
        refine Y2N hP q7M (z6h hP _ t.list.length _ [x.elem] (x8d (e:=q0x) (by simp[g3]) (by simp[g3])) (by simp)) (by simp) rfl rfl rfl rfl fun k2 hk2=> ?_
        refine Y2B hP (by simp<;>rfl) ?_
        dsimp only[goK,q0a,q0c,q0d]
        have w2:Wid h k2:=Wid.trans (g4.new _) hk2
        cases hth:q2f t.list.length [x.elem]with
        | false=>
          repeat' first|refine Y2v ?_|(refine Y2A hP (by simp[hth]<;>rfl) ?_;dsimp only[goK])|simp only[q0a,q0c,q0d,↓reduceIte,Nat.reduceEqDiff,reduceCtorEq]
          refine Y2u ⟨.inr rfl,_,_,rfl,rfl,?_⟩
          refine⟨?_,?_⟩
          ·simp[q0q,mayS,hx,h1,h2,hpl,hth]
          ·exact w2
        | true=>
          repeat' first|refine Y2v ?_|(refine Y2A hP (by simp[hth]<;>rfl) ?_;dsimp only[goK])|simp only[q0a,q0c,q0d,↓reduceIte,Nat.reduceEqDiff,reduceCtorEq]
          refine Y2u ⟨.inr rfl,_,_,rfl,rfl,?_⟩
          refine⟨?_,?_⟩
          ·simp[q0q,mayS,hx,h1,h2,hpl,hth]
          ·exact w2
      · by_cases h3 : x.kind=3
        · obtain⟨v',k',happ,hrd,hget,hnx⟩:=x8x (h:=g.new (.cells q0x [.int .i64 x.elem])) (q1a (gl:=gl) (K:=K)) (q:=g.nx) (x:=x.elem) (by simp) (by simp) (x7L _ x.parts) (by omega)
          have w1:Wid g k':=Wid.trans ((Y2M g).new _) ⟨hnx,hget⟩
          dsimp only[q0m,q0x]at happ
          rw[g3]at happ
          have k1:=w1.at g1 (by omega)
          have k2:=w1.at g2 (by omega)
          by_cases hl4:(x.parts.list.length:Int)≤4
          · repeat' first|refine Y2v ?_|refine Y2x ?_|refine Y2I hP rfl ?_|refine Y2J hP rfl ?_|(refine Y2A hP (by simp[h1,h2,h3,hpl,g1,g2,g3,happ,k1,k2,hl4]<;>rfl) ?_;dsimp only[goK])
            have hl4':x.parts.list.length≤4:=by omega
            refine Y2N hP q7M (z6h hP _ t.list.length _ _ hrd (by simp;omega)) (by simp) rfl rfl rfl rfl fun k3 hk3=> ?_
            have w3:=w1.trans hk3
            have m1:=w3.at g1 (by omega)
            cases hth:q2f t.list.length (x.elem::x.parts.list)with
            | false=>
              refine Y2B hP (by simp[hth]<;>rfl) ?_
              dsimp only[goK,q0a,q0c,q0d]
              repeat' first|refine Y2v ?_|(refine Y2A hP (by simp[hth]<;>rfl) ?_;dsimp only[goK])|(refine TO.left ?_ rfl rfl ?_;(focus(simp;done));refine Y2B hP (by simp[hth]<;>rfl) ?_;dsimp only[goK])|simp only[q0a,q0c,q0d,↓reduceIte,Nat.reduceEqDiff,reduceCtorEq]
              refine Y2u ⟨.inr rfl,_,_,rfl,rfl,?_⟩
              refine⟨?_,?_⟩
              ·simp[q0q,mayS,hx,h1,h2,h3,hpl,hl4',hth]
              ·exact g4.trans w3
            | true=>
              refine Y2B hP (by simp[hth]<;>rfl) ?_
              dsimp only[goK,q0a,q0c,q0d]
              have hin:∀n∈x.elem::x.parts.list,0≤n∧n<t.list.length:=fun n hn=>by
                have:=Y0G.1 hth n hn
                simpa using this
              refine Y2N hP q0W (z1i hP _ _ q7K [.ptr h.nx 0] (fun n=> !scAt t.list n) x0f _ (hrd.wid hk3) (by simp;omega) fun n hn h' hw=>may1 hP t n h.nx z4J h' (by rw[hav];exact hw.at m1 (by have:=w3.nx;omega)) (hin n hn).1 (hin n hn).2) (by simp) rfl rfl rfl rfl fun k4 hk4=> ?_
              have e5:((x.elem::x.parts.list).any fun n=> !scAt t.list n)= !((x.elem::x.parts.list).all (scAt t.list)):=by
                rw[Y3k]
              rw[e5]
              have e6:(mayS t.list k sz)=((1:Int),((x.elem::x.parts.list).all (scAt t.list))):=by
                simp[mayS,hx,h3,hpl,hl4',hth]
              rw[e6]
              cases ((x.elem::x.parts.list).all (scAt t.list))with
              | false=>
                refine Y2B hP (by simp<;>rfl) ?_
                dsimp only[goK,q0a,q0c,q0d]
                repeat' first|refine Y2v ?_|(refine Y2A hP (by simp<;>rfl) ?_;dsimp only[goK])|simp only[q0a,q0c,q0d,↓reduceIte,Nat.reduceEqDiff,reduceCtorEq]
                refine Y2u ⟨.inr rfl,_,_,rfl,rfl,?_⟩
                refine⟨?_,?_⟩
                ·rfl
                ·exact g4.trans (w3.trans hk4)
              | true=>
                refine Y2B hP (by simp<;>rfl) ?_
                dsimp only[goK,q0a,q0c,q0d]
                repeat' first|refine Y2v ?_|(refine Y2A hP (by simp<;>rfl) ?_;dsimp only[goK])|simp only[q0a,q0c,q0d,↓reduceIte,Nat.reduceEqDiff,reduceCtorEq]
                refine Y2u ⟨.inr rfl,_,_,rfl,rfl,?_⟩
                refine⟨?_,?_⟩
                ·rfl
                ·exact g4.trans (w3.trans hk4)
          · have hl4':¬x.parts.list.length≤4:=by omega
            repeat' first|refine Y2v ?_|refine Y2x ?_|refine Y2I hP rfl ?_|refine Y2J hP rfl ?_|(refine Y2A hP (by simp[h1,h2,h3,hpl,g1,g2,g3,happ,k1,k2,hl4]<;>rfl) ?_;dsimp only[goK])|(refine TO.left ?_ rfl rfl ?_;(focus(simp;done));refine Y2B hP (by simp[h1,h2,h3,hpl,g1,g2,g3,happ,k1,k2,hl4]<;>rfl) ?_;dsimp only[goK])|simp only[q0a,q0c,q0d,↓reduceIte,Nat.reduceEqDiff,reduceCtorEq]
            refine Y2u ⟨.inr rfl,_,_,rfl,rfl,?_⟩
            refine⟨?_,?_⟩
            ·simp[q0q,mayS,hx,h1,h2,h3,hpl,hl4']
            ·exact g4.trans w1
        · by_cases h4 :x.kind=4
          · repeat' first|refine Y2v ?_|refine Y2x ?_|refine Y2I hP rfl ?_|refine Y2J hP rfl ?_|(refine Y2A hP (by simp[h1,h2,h3,h4,hpl,g1,g2,g3]<;>rfl) ?_;dsimp only[goK])
            refine Y2N hP q7M (z6h hP _ k _ x.parts.list (x7L _ _) (by omega)) (by simp) rfl rfl rfl rfl fun k2 hk2=> ?_
            refine Y2B hP (by simp<;>rfl) ?_
            dsimp only[goK,q0a,q0c,q0d]
            cases hth:q2f k x.parts.list with
            | false=>
              repeat' first|refine Y2v ?_|refine Y2I hP rfl ?_|(refine Y2A hP (by simp[hth]<;>rfl) ?_;dsimp only[goK])|simp only[q0a,q0c,q0d,↓reduceIte,Nat.reduceEqDiff,reduceCtorEq]
              refine Y2u ⟨.inr rfl,_,_,rfl,rfl,?_⟩
              refine⟨?_,?_⟩
              ·simp[q0q,mayS,hx,h1,h2,h3,h4,hpl,hth]
              ·exact g4.trans hk2
            | true =>
              have k8:=hk2.at g2 (by omega)
              have hin:∀n∈x.parts.list,0≤n∧n<k:=fun n hn=>by
                have:=Y0G.1 hth n hn
                simpa using this
              have rk:=(hr.wid g4).wid hk2
              repeat' first|refine Y2v ?_|refine Y2x ?_|refine Y2s ?_|refine Y2J hP rfl ?_|(refine Y2A hP (by simp[hth,k8]<;>rfl) ?_;dsimp only[goK])
              refine Y2H (fun p:Nat×AV=>[(2,v),(12,p.2),(75,x.parts.av cI),(76,.int .i64 x.parts.list.length),(77,.int .i64 (p.1:Nat))])
                (fun p g'=>p.1≤x.parts.list.length∧Own 1 q0x k2.nx g' p.2 ((x.parts.list.take p.1).map fun n=>[.int .i64 (sz.getD n.toNat 0)])∧WidB k2.nx k2 g') (fun p=>x.parts.list.length-p.1) (0,.nilsl) ?_ ⟨Y0E _,.nil,.refl _ _⟩ ?_
              ·exact zL
              rintro⟨i,lv⟩ g' ⟨hi,hown,hwb⟩
              dsimp only at hi hown⊢
              refine Y2v (Y2A hP (by simp<;>rfl) ?_)
              dsimp only[goK,q0a,q0c,q0d]
              refine Y2v (Y2w hP rfl (fun hc=>Y2s ?_) (fun hc=>Y2t ?_))
              · have hi':i<x.parts.list.length:=by simpa using hc
                have hxi:x.parts.list[i]? =some x.parts.list[i]:=Y0n hi'
                have hpv:=q0j (e:=cI) (show 0<x.parts.list.length by omega)
                obtain⟨m,hm⟩:=Y3j (hin _ (Y0H hi')).1
                have hm2:m<sz.length:=by have:=(hin _ (Y0H hi')).2;omega
                obtain⟨q,hp1,hp2⟩:=rk.at' (q1a (gl:=gl) (K:=K)) (by simp) (q:=.i64) hm2
                have hp2:=hp2 g' ⟨hwb.nx,hwb.get⟩
                dsimp only[q0m,q0x]at hp1 hp2
                rw[hm]at hxi
                have hgd:sz.getD m 0=sz[m]:=by simp[Y3l,hm2]
                obtain⟨lv',k',happ,hown',hwb',hnx⟩:=hown.push (row:=[.int .i64 sz[m]]) (q1a (gl:=gl) (K:=K)) (fun c hc=>by obtain⟨_,_,rfl⟩:=Y2S.1 hc;rfl) rfl rfl (by simp;omega) hwb.nx
                dsimp only[q0m,q0x]at happ hown'
                dsimp only[q0a]
                refine Y2v (Y2x (Y2v (Y2A hP (by simp[hxi,hpv]<;>rfl) ?_)))
                dsimp only[goK,q0a]
                refine Y2A hP (by simp[hp1,hp2,happ]<;>rfl) ?_
                dsimp only[goK,q0a,q0c]
                refine Y2A hP (by simp;simp (disch:=omega)only[bAdd,bSub];simp<;>rfl) ?_
                dsimp only[goK,q0a,q0c,q0d]
                refine⟨(i+1,lv'),by dsimp only;omega,rfl,?_,by dsimp only;omega,?_,hwb.trans hwb'⟩
                ·exact zLf @hpv
                · dsimp only
                  rw[Y1B hi',Y3m,hm]
                  simpa [Y0n hm2]using hown'
              · have hi':i=x.parts.list.length:=by simp at hc;omega
                subst hi'
                dsimp only[q0a,q0d,q0c]
                rw[Y3n]at hown
                simp only[↓reduceIte]
                have e7:(x.parts.list.map fun n=>[AV.int .i64 (sz.getD n.toNat 0)])=(x.parts.list.map fun n=>sz.getD n.toNat 0).map fun n=>[AV.int .i64 n]:=by rw[Y1D];rfl
                rw[e7]at hown
                have hro:=hown.rdI
                have hl:=fun g=>hro.lenOf (q1a (gl:=gl) (K:=K)) g
                dsimp only[q0m,q0x]at hl
                rw[Y1q]at hl
                have hsm:∀n∈x.parts.list.map (fun n=>sz.getD n.toNat 0),0≤n∧n≤1000:=fun n hn=>by
                  obtain⟨y,hy,rfl⟩:=Y2S.1 hn
                  obtain⟨m,hm⟩:=Y3j (hin _ hy).1
                  have hm2:m<sz.length:=by have:=(hin _ hy).2;omega
                  have:sz.getD y.toNat 0=sz[m]:=by rw[hm];simp[Y3l,hm2]
                  rw[this];exact hs _ (Y0H hm2)
                have wk:Wid h g':=⟨by have:=g4.nx;have:=hk2.nx;have:=hwb.nx;omega,fun r hr=>by rw[hwb.get r (by have:=g4.nx;have:=hk2.nx;omega),hk2.get r (by have:=g4.nx;omega),g4.get r hr]⟩
                by_cases hq0:0<x.parts.list.length
                · by_cases hq8:(x.parts.list.length:Int)≤8
                  · have hq8':x.parts.list.length≤8:=by omega
                    refine Y2A hP (by simp[hl,hq0,hq8]<;>rfl) ?_
                    dsimp only[goK]
                    refine Y2N hP z2Q (x7J hP _ lv _ hro (by simp;omega) (fun n hn=>by have:=hsm n hn;omega)) (by simp) rfl rfl rfl rfl fun k3 hk3=> ?_
                    refine Y2B hP (by simp<;>rfl) ?_
                    dsimp only[goK,q0a,q0c,q0d]
                    by_cases hs32:sumN (x.parts.list.map fun n=>sz.getD n.toNat 0)≤32
                    · repeat' first|refine Y2v ?_|(refine Y2A hP (by simp[hq0,hq8,hs32]<;>rfl) ?_;dsimp only[goK])|simp only[q0a,q0c,q0d,↓reduceIte,Nat.reduceEqDiff,reduceCtorEq]
                      refine Y2u ⟨.inr rfl,_,_,rfl,rfl,?_⟩
                      refine⟨?_,?_⟩
                      ·simp[q0q,mayS,hx,h1,h2,h3,h4,hpl,hth,hq0,hq8']<;>simpa using hs32
                      ·exact wk.trans hk3
                    · repeat' first|refine Y2v ?_|(refine Y2A hP (by simp[hq0,hq8,hs32]<;>rfl) ?_;dsimp only[goK])|simp only[q0a,q0c,q0d,↓reduceIte,Nat.reduceEqDiff,reduceCtorEq]
                      refine Y2u ⟨.inr rfl,_,_,rfl,rfl,?_⟩
                      refine⟨?_,?_⟩
                      ·simp[q0q,mayS,hx,h1,h2,h3,h4,hpl,hth,hq0,hq8']<;>simpa using hs32
                      ·exact wk.trans hk3
                  · have hq8':¬x.parts.list.length≤8:=by omega
                    refine Y2A hP (by simp[hl,hq0,hq8]<;>rfl) ?_
                    dsimp only[goK]
                    refine Y2N hP z2Q (x7J hP _ lv _ hro (by simp;omega) (fun n hn=>by have:=hsm n hn;omega)) (by simp) rfl rfl rfl rfl fun k3 hk3=> ?_
                    refine Y2B hP (by simp<;>rfl) ?_
                    dsimp only[goK,q0a,q0c,q0d]
                    by_cases hs32:sumN (x.parts.list.map fun n=>sz.getD n.toNat 0)≤32
                    · repeat' first|refine Y2v ?_|(refine Y2A hP (by simp[hq0,hq8,hs32]<;>rfl) ?_;dsimp only[goK])|simp only[q0a,q0c,q0d,↓reduceIte,Nat.reduceEqDiff,reduceCtorEq]
                      refine Y2u ⟨.inr rfl,_,_,rfl,rfl,?_⟩
                      refine⟨?_,?_⟩
                      ·simp[q0q,mayS,hx,h1,h2,h3,h4,hpl,hth,hq0,hq8']<;>simpa using hs32
                      ·exact wk.trans hk3
                    · repeat' first|refine Y2v ?_|(refine Y2A hP (by simp[hq0,hq8,hs32]<;>rfl) ?_;dsimp only[goK])|simp only[q0a,q0c,q0d,↓reduceIte,Nat.reduceEqDiff,reduceCtorEq]
                      refine Y2u ⟨.inr rfl,_,_,rfl,rfl,?_⟩
                      refine⟨?_,?_⟩
                      ·simp[q0q,mayS,hx,h1,h2,h3,h4,hpl,hth,hq0,hq8']<;>simpa using hs32
                      ·exact wk.trans hk3
                · have hq0':x.parts.list.length=0:=by omega
                  refine Y2A hP (by simp[hl,hq0,hq0']<;>rfl) ?_
                  dsimp only[goK]
                  refine Y2N hP z2Q (x7J hP _ lv _ hro (by simp;omega) (fun n hn=>by have:=hsm n hn;omega)) (by simp) rfl rfl rfl rfl fun k3 hk3=> ?_
                  refine Y2B hP (by simp<;>rfl) ?_
                  dsimp only[goK,q0a,q0c,q0d]
                  by_cases hs32:sumN (x.parts.list.map fun n=>sz.getD n.toNat 0)≤32
                  · repeat' first|refine Y2v ?_|(refine Y2A hP (by simp[hq0,hq0',hs32]<;>rfl) ?_;dsimp only[goK])|simp only[q0a,q0c,q0d,↓reduceIte,Nat.reduceEqDiff,reduceCtorEq]
                    refine Y2u ⟨.inr rfl,_,_,rfl,rfl,?_⟩
                    refine⟨?_,?_⟩
                    ·simp[q0q,mayS,hx,h1,h2,h3,h4,hpl,hth,hq0,hq0']<;>simpa using hs32
                    ·exact wk.trans hk3
                  · repeat' first|refine Y2v ?_|(refine Y2A hP (by simp[hq0,hq0',hs32]<;>rfl) ?_;dsimp only[goK])|simp only[q0a,q0c,q0d,↓reduceIte,Nat.reduceEqDiff,reduceCtorEq]
                    refine Y2u ⟨.inr rfl,_,_,rfl,rfl,?_⟩
                    refine⟨?_,?_⟩
                    ·simp[q0q,mayS,hx,h1,h2,h3,h4,hpl,hth,hq0,hq0']<;>simpa using hs32
                    ·exact wk.trans hk3
          · by_cases h5:x.kind=5
            · repeat' first|refine Y2v ?_|refine Y2x ?_|refine Y2I hP rfl ?_|refine Y2J hP rfl ?_|(refine Y2A hP (by simp[h1,h2,h3,h4,h5,hpl,g1,g2,g3]<;>rfl) ?_;dsimp only[goK])
              refine Y2N hP q7M (z6h hP _ k _ [x.elem] (x8d (e:=q0x) (by simp[g3]) (by simp[g3])) (by simp)) (by simp) rfl rfl rfl rfl fun k2 hk2=> ?_
              have w2:Wid g k2:=Wid.trans ((Y2M g).new _) hk2
              have k8:=w2.at g2 (by omega)
              cases hth:q2f k [x.elem]with
              | false=>
                refine Y2B hP (by simp[hth,k8]<;>rfl) ?_
                dsimp only[goK,q0a,q0c,q0d]
                repeat' first|refine Y2v ?_|refine Y2I hP rfl ?_|(refine Y2A hP (by simp[hth,k8]<;>rfl) ?_;dsimp only[goK])|simp only[q0a,q0c,q0d,↓reduceIte,Nat.reduceEqDiff,reduceCtorEq]
                refine Y2u ⟨.inr rfl,_,_,rfl,rfl,?_⟩
                refine⟨?_,?_⟩
                ·simp[q0q,mayS,hx,h1,h2,h3,h4,h5,hpl,hth]
                ·exact g4.trans w2
              | true =>
                by_cases hm1:1≤x.many
                · by_cases hm2:x.many≤16
                  · have hin:0≤x.elem∧x.elem<k:=by simpa [q2f]using hth
                    obtain⟨i,hi⟩:=Y3j hin.1
                    have hi2:i<sz.length:=by omega
                    have hsi:=hs sz[i] (Y0H hi2)
                    obtain⟨q,hp1,hp2⟩:=(hr.wid (g4.trans w2)).at' (q1a (gl:=gl) (K:=K)) (by simp) (q:=.i64) hi2
                    dsimp only[q0m,q0x]at hp1 hp2
                    have hb1:0≤x.many*sz[i]:=Int.mul_nonneg (by omega) hsi.1
                    have hb2:x.many*sz[i]≤16*1000:=Int.mul_le_mul hm2 hsi.2 hsi.1 (by omega)
                    have hbm:=bMul (C:=Ctx.of Tryz.prog gl (K.tell [])) (t:=3) (a:=x.many) (b:=sz[i]) (by omega) (by omega)
                    have hp1':indexAt (Ctx.of Tryz.prog gl (K.tell [])) q0m v (.int .i64 (i:Nat))=some q:=hp1
                    dsimp only[q0m]at hp1'
                    have hp2':∀g,Wid k2 g→loadAt (Ctx.of Tryz.prog gl (K.tell [])) 3 q g=some (.int .i64 sz[i]):=hp2
                    have hp3:=hp2' _ (Y2M _).z
                    rw[hi]at k8
                    refine Y2B hP (by simp[hth,k8,hm1,hm2]<;>rfl) ?_
                    dsimp only[goK,q0a,q0c,q0d]
                    refine Y2v (Y2A hP (by simp<;>rfl) ?_)
                    dsimp only[goK,q0a,q0c,q0d]
                    refine Y2J hP rfl (Y2s ?_)
                    dsimp only[q0a]
                    refine Y2L hP [] (fun e he=>by cases he) (by kernel_rfl) (by simp[k8,hp1',hp3,hbm]<;>rfl) ?_
                    dsimp only
                    have hgd:sz.getD x.elem.toNat 0=sz[i]:=by rw[hi];simp[Y3l,hi2]
                    by_cases hs32:x.many*sz[i]≤32
                    · repeat' first|refine Y2v ?_|(refine Y2A hP (by simp[hs32]<;>rfl) ?_;dsimp only[goK])|simp only[q0a,q0c,q0d,↓reduceIte,Nat.reduceEqDiff,reduceCtorEq]
                      refine Y2u ⟨.inr rfl,_,_,rfl,rfl,?_⟩
                      refine⟨?_,?_⟩
                      ·simp only[q0q,mayS,hx,h5,hpl,hth,hm1,hm2,hgd];simp[hs32]
                      ·exact g4.trans w2.z
                    · repeat' first|refine Y2v ?_|(refine Y2A hP (by simp[hs32]<;>rfl) ?_;dsimp only[goK])|simp only[q0a,q0c,q0d,↓reduceIte,Nat.reduceEqDiff,reduceCtorEq]
                      refine Y2u ⟨.inr rfl,_,_,rfl,rfl,?_⟩
                      refine⟨?_,?_⟩
                      ·simp only[q0q,mayS,hx,h5,hpl,hth,hm1,hm2,hgd];simp[hs32]
                      ·exact g4.trans w2.z
                  · refine Y2B hP (by simp[hth,k8,hm1,hm2]<;>rfl) ?_
                    dsimp only[goK,q0a,q0c,q0d]
                    repeat' first|refine Y2v ?_|refine Y2I hP rfl ?_|(refine Y2A hP (by simp[hth,k8,hm1,hm2]<;>rfl) ?_;dsimp only[goK])|simp only[q0a,q0c,q0d,↓reduceIte,Nat.reduceEqDiff,reduceCtorEq]
                    refine Y2u ⟨.inr rfl,_,_,rfl,rfl,?_⟩
                    refine⟨?_,?_⟩
                    ·simp[q0q,mayS,hx,h1,h2,h3,h4,h5,hpl,hth,hm1,hm2]
                    ·exact g4.trans w2
                · refine Y2B hP (by simp[hth,k8,hm1]<;>rfl) ?_
                  dsimp only[goK,q0a,q0c,q0d]
                  repeat' first|refine Y2v ?_|refine Y2I hP rfl ?_|(refine Y2A hP (by simp[hth,k8,hm1]<;>rfl) ?_;dsimp only[goK])|simp only[q0a,q0c,q0d,↓reduceIte,Nat.reduceEqDiff,reduceCtorEq]
                  refine Y2u ⟨.inr rfl,_,_,rfl,rfl,?_⟩
                  refine⟨?_,?_⟩
                  ·simp[q0q,mayS,hx,h1,h2,h3,h4,h5,hpl,hth,hm1]
                  ·exact g4.trans w2
            · repeat' first|refine Y2v ?_|refine Y2x ?_|refine Y2J hP rfl ?_|(refine Y2A hP (by simp[h1,h2,h3,h4,h5,hpl,g1,g2,g3]<;>rfl) ?_;dsimp only[goK])|simp only[q0a,q0c,q0d,↓reduceIte,Nat.reduceEqDiff,reduceCtorEq]
              refine Y2u ⟨.inr rfl,_,_,rfl,rfl,?_⟩
              refine⟨?_,?_⟩
              ·simp[q0q,mayS,hx,h1,h2,h3,h4,h5,hpl]
              ·repeat' first|exact g4
def q7e(t:List LType):Nat→List Int→Option (List Int)
 |0,sz=>some sz
 |n+1,sz=>if(mayS t sz.length sz).2=true then q7e t n (sz++[(mayS t sz.length sz).1])else none
def z6r(t:List LType):Int:=if 16<t.length then 4 else match q7e t t.length []with|some _=>0|none=>30
theorem mayS_bnd{t:List LType}{k:Nat}{sz:List Int}(hs:∀n∈sz,0≤n∧n≤1000)(h:(mayS t k sz).2=true):0≤(mayS t k sz).1∧(mayS t k sz).1≤32:=by
  have hg:∀i,0≤sz.getD i 0:=fun i=>by
    rw[Y3l]
    cases hi:sz[i]? with
    |none=>exact Int.le_refl _
    |some x=>exact(hs x (Y0N hi)).1
  have hsum:∀(f:Int→Int) (l:List Int),(∀n,0≤f n)→0≤sumN (l.map f):=fun f l hf=>by
    induction l with
    |nil=>exact Int.le_refl _
    |cons a l ih=>have:=hf a;simp only[Y1f,sumN];omega
  unfold mayS at h⊢
  cases ht:t[k]? with
  |none=>rw[ht]at h;cases h
  | some x=>
    rw[ht]at h
    dsimp only at h⊢
    split
    ·exact⟨show(0:Int)≤1 by decide,show(1:Int)≤32 by decide⟩
    split
    ·exact⟨show(0:Int)≤1 by decide,show(1:Int)≤32 by decide⟩
    split
    ·exact⟨show(0:Int)≤1 by decide,show(1:Int)≤32 by decide⟩
    split
    · rename_i h1 h2 h3 h4
      rw[Y0c h1,Y0c h2,Y0c h3,Y0e h4]at h
      split
      · rename_i hp
        rw[Y0e hp]at h
        simp only[Y1X,Y2h]at h
        exact⟨hsum _ _ fun n=>hg _,h.2.2⟩
      ·exact⟨show(0:Int)≤0 by decide,show(0:Int)≤32 by decide⟩
    split
    · rename_i h1 h2 h3 h4 h5
      rw[Y0c h1,Y0c h2,Y0c h3,Y0c h4,Y0e h5]at h
      split
      · rename_i hp
        rw[Y0e hp]at h
        simp only[Y1X,Y2h]at h hp
        exact⟨Int.mul_nonneg (by omega) (hg _),h⟩
      ·exact⟨show(0:Int)≤0 by decide,show(0:Int)≤32 by decide⟩
    ·exact⟨show(0:Int)≤1 by decide,show(1:Int)≤32 by decide⟩
theorem z5J(hP:POk Tryz.prog F gl K)(t:Sl LType)(hp:∀x∈t.list,x.parts.list.length<900000)(hlt:t.list.length<1000000):PureC Tryz.prog F q9O [t.av LType.cells] (.int .i64 (z6r t.list)):=by
  refine Y2z (O:=fun v _=>v= .int .i64 (z6r t.list)) (k:=1) (by simp) ?_ (fun v h e=>by subst e;rfl)
  refine Y2y hP q0f x0k rfl rfl ?_
  refine Y2v (Y2A hP (by simp<;>rfl) ?_)
  dsimp only[goK,q0a,q0c,q0d]
  by_cases h16:(16:Int)<t.list.length
  · repeat' first|refine Y2v ?_|refine Y2I hP rfl ?_|(refine Y2A hP (by simp[h16]<;>rfl) ?_;dsimp only[goK])|simp only[q0a,q0c,q0d,↓reduceIte,Nat.reduceEqDiff,reduceCtorEq]
    refine Y2u ⟨.inr rfl,_,_,rfl,rfl,?_⟩
    simp[q0q,z6r,show 16<t.list.length by omega]
  · have h16':¬16<t.list.length:=by omega
    repeat' first|refine Y2v ?_|refine Y2x ?_|refine Y2s ?_|refine Y2J hP rfl ?_|(refine Y2A hP (by simp[h16]<;>rfl) ?_;dsimp only[goK])
    refine Y2H (fun p:Nat×AV×List Int=>[(0,t.av LType.cells),(3,p.2.1),(11,.int .i64 t.list.length),(12,.int .i64 (p.1:Nat))])
      (fun p g=>p.1≤t.list.length∧p.2.2.length=p.1∧(∀n∈p.2.2,0≤n∧n≤1000)∧q7e t.list t.list.length []=q7e t.list (t.list.length-p.1) p.2.2∧Own 1 q0x 0 g p.2.1 (p.2.2.map fun n=>[.int .i64 n]))
      (fun p=>t.list.length-p.1) (0,.nilsl,[]) ?_ ⟨Y0E _,rfl,(fun n hn=>by cases hn),rfl,.nil⟩ ?_
    ·exact zL
    rintro⟨i,lv,sz⟩ g ⟨hi,hsz,hs,hgo,hown⟩
    dsimp only at hi hsz hs hgo hown⊢
    refine Y2v (Y2A hP (by simp<;>rfl) ?_)
    dsimp only[goK,q0a,q0c,q0d]
    refine Y2v (Y2w hP rfl (fun hc=>Y2s ?_) (fun hc=>Y2t ?_))
    · have hi':i<t.list.length:=by simpa using hc
      have hstep:q7e t.list (t.list.length-i) sz=if(mayS t.list i sz).2=true then q7e t.list (t.list.length-(i+1)) (sz++[(mayS t.list i sz).1])else none:=by
        rw[show t.list.length-i=(t.list.length-(i+1))+1 by omega]
        simp only[q7e,hsz]
      dsimp only[q0a]
      refine Y2v (Y2x (Y2v (Y2A hP (by simp<;>rfl) ?_)))
      dsimp only[goK,q0a]
      refine Y2v (Y2A hP (by simp<;>rfl) ?_)
      dsimp only[goK,q0a,q0c,q0d]
      refine Y2N hP x4q (may_qt hP g t i lv sz hown.rdI hi' hsz hs hlt hp) (by simp) rfl rfl rfl rfl fun k hk=> ?_
      have hb:=mayS_bnd (t:=t.list) (k:=i) hs
      rw[hstep]at hgo
      cases hm:(mayS t.list i sz).2 with
      | false=>
        rw[hm]at hgo
        refine Y2B hP (by simp<;>rfl) ?_
        dsimp only[goK,q0a,q0c,q0d]
        repeat' first|refine Y2v ?_|refine Y2I hP rfl ?_|(refine Y2A hP (by simp<;>rfl) ?_;dsimp only[goK])|simp only[q0a,q0c,q0d,↓reduceIte,Nat.reduceEqDiff,reduceCtorEq]
        refine Y2u ⟨.inr rfl,_,_,rfl,rfl,?_⟩
        simp[q0q,z6r,h16',hgo]
      | true=>
        rw[hm]at hgo
        have hb:=hb hm
        refine Y2B hP (by simp<;>rfl) ?_
        dsimp only[goK,q0a,q0c,q0d]
        have hown2:=hown.wid hk
        obtain⟨lv',k',happ,hown',hwb',hnx⟩:=hown2.push (row:=[.int .i64 (mayS t.list i sz).1]) (q1a (gl:=gl) (K:=K)) (fun c hc=>by obtain⟨_,_,rfl⟩:=Y2S.1 hc;rfl) rfl rfl (by simp;omega) (Y0E _)
        dsimp only[q0m,q0x]at happ hown'
        have hinc:=inc_ (C:=Ctx.of Tryz.prog gl K) (t:=q0x) (i:=i) (by omega)
        dsimp only[q0x]at hinc
        repeat' first|refine Y2v ?_|refine Y2s ?_|refine Y2J hP rfl ?_|(refine Y2A hP (by simp[happ,hinc]<;>rfl) ?_;dsimp only[goK])
        dsimp only[q0d]
        refine⟨(i+1,lv',sz++[(mayS t.list i sz).1]),by dsimp only;omega,rfl,?_,by dsimp only;omega,by simp[hsz],fun n hn=> ?_,by simpa using hgo,?_⟩
        ·exact zL
        · rcases Y3o.1 hn with hn|hn
          ·exact hs n hn
          ·rw[Y2d.1 hn];omega
        ·simpa using hown'
    · have hi':i=t.list.length:=by simp at hc;omega
      subst hi'
      rw[Y1s]at hgo
      repeat' first|refine Y2v ?_|(refine Y2A hP (by simp<;>rfl) ?_;dsimp only[goK])|simp only[q0a,q0c,q0d,↓reduceIte,Nat.reduceEqDiff,reduceCtorEq]
      refine Y2u ⟨.inr rfl,_,_,rfl,rfl,?_⟩
      simp[q0q,z6r,h16',hgo,q7e]
def q2h(n most:Int):Bool:=decide (0≤n)&&decide (n<most)
theorem q2b(hP:POk Tryz.prog F gl K)(n most:Int):PureC Tryz.prog F q9Q [.int .i64 n,.int .i64 most] (.bool (q2h n most)):=by
 refine Y2z (O:=fun v _=>v= .bool (q2h n most)) (k:=1) (by simp) ?_ (fun v h e=>by subst e;rfl)
 refine Y2y hP q0f x0p rfl rfl ?_
 refine Y2v (Y2A hP (by simp<;>rfl) ?_)
 dsimp only[goK,q0a,q0c,q0d]
 refine Y2v (Y2A hP (by simp+contextual-implicitDefEqProofs<;>rfl) ?_)
 dsimp only[goK,q0a,q0c,q0d]
 refine Y2u ⟨.inr rfl,_,_,rfl,rfl,?_⟩
 simp[q0q,q2h]
theorem all1(hP:POk Tryz.prog F gl K)(most n:Int)(r:Nat)(e:TypeId)(h:Hp)(hr:h.get r=some (.cells e [.int .i64 most])):
  Qt Tryz.prog F h (.bool (!q2h n most)) q7L [.int .i64 n,.ptr r 0]:=by
 refine Y2y hP q0f x0r rfl rfl ?_
 refine Y2v (Y2A hP (by simp<;>rfl) ?_)
 dsimp only[goK,q0a,q0c,q0d]
 refine Y2v (Y2A hP (by simp[hr]<;>rfl) ?_)
 dsimp only[goK,q0a,q0c,q0d]
 refine Y2O hP q0G (q2b hP n most) (by simp) rfl rfl rfl rfl ?_
 refine Y2B hP (by simp<;>rfl) ?_
 dsimp only[goK,q0a,q0c,q0d]
 refine Y2u ⟨.inr rfl,h,_,rfl,rfl,?_,.refl _⟩
 simp[q0q]
theorem z6m(hP:POk Tryz.prog F gl K)(most:Int)(xs:Sl Int)(hlen:xs.list.length<1000000):PureC Tryz.prog F z2L [xs.av cI,.int .i64 most] (.bool (q2f most xs.list)):=by
 refine Y2z (O:=fun v _=>v= .bool (q2f most xs.list)) (k:=1) (by simp) ?_ (fun v h e=>by subst e;rfl)
 refine Y2y hP q0f x4B rfl rfl ?_
 refine Y2v (Y2A hP (by simp<;>rfl) ?_)
 dsimp only[goK,q0a,q0c,q0d]
 refine Y2v (Y2A hP (by simp<;>rfl) ?_)
 dsimp only[goK,q0a,q0c,q0d]
 refine Y2N hP q0W (q4v hP xs q7L [.ptr 0 0] (fun n=> !q2h n most) x0g _ hlen fun x _ h' hw=>all1 hP most x 0 q0x h' ((hw.at (o:=.cells q0x [.int .i64 most]) (by simp) (by simp)))) (by simp) rfl rfl rfl rfl fun k hk=> ?_
 refine Y2B hP (by simp<;>rfl) ?_
 dsimp only[goK,q0a,q0c,q0d]
 refine Y2u ⟨.inr rfl,k,_,rfl,rfl,?_⟩
 simp only[q0q,q2f]
 congr 1
 rw[Y3i]
 simp[q2h]
structure LSizes where
 types:Int
 funcs:Int
 regs:Int
 blocks:Int
def LSizes.cells(x:LSizes):List AV:=[.int .i64 x.types,.int .i64 x.funcs,.int .i64 x.regs,.int .i64 x.blocks]
attribute [simp] LSizes.cells
def q6x(x:LIns)(s:LSizes):Bool:=
 if x.op=3∨x.op=18 then decide (0≤x.n)&&decide (x.n<s.funcs)else if x.op=14 then decide (0≤x.n)&&decide (x.n<8)else true
theorem z7h(hP:POk Tryz.prog F gl K)(x:LIns)(s:LSizes):PureC Tryz.prog F q8T [.agg x.cells,.agg s.cells] (.bool (q6x x s)):=by
 refine Y2z (O:=fun v _=>v= .bool (q6x x s)) (k:=1) (by simp) ?_ (fun v h e=>by subst e;rfl)
 refine Y2y hP q0f z8l rfl rfl ?_
 refine Y2v (Y2A hP (by simp<;>rfl) ?_)
 dsimp only[goK,q0a,q0c,q0d]
 by_cases h3:x.op=3
 ·repeat' first|refine Y2v ?_|refine Y2x ?_|refine Y2s ?_|refine Y2I hP rfl ?_|(refine Y2A hP (by simp+contextual-implicitDefEqProofs [h3]<;>rfl) ?_;dsimp only[goK])|simp only[q0a,q0c,q0d,↓reduceIte,Nat.reduceEqDiff,reduceCtorEq]
  refine Y2u ⟨.inr rfl,_,_,rfl,rfl,?_⟩
  simp[q0q,q6x,h3]
 ·by_cases h18:x.op=18
  ·repeat' first|refine Y2v ?_|refine Y2x ?_|refine Y2I hP rfl ?_|refine Y2J hP rfl ?_|(refine Y2A hP (by simp+contextual-implicitDefEqProofs [h3,h18]<;>rfl) ?_;dsimp only[goK])|simp only[q0a,q0c,q0d,↓reduceIte,Nat.reduceEqDiff,reduceCtorEq]
   refine Y2u ⟨.inr rfl,_,_,rfl,rfl,?_⟩
   simp[q0q,q6x,h18]
  ·by_cases h14:x.op=14
   ·repeat' first|refine Y2v ?_|refine Y2x ?_|refine Y2I hP rfl ?_|refine Y2J hP rfl ?_|(refine Y2A hP (by simp+contextual-implicitDefEqProofs [h3,h18,h14]<;>rfl) ?_;dsimp only[goK])|simp only[q0a,q0c,q0d,↓reduceIte,Nat.reduceEqDiff,reduceCtorEq]
    refine Y2u ⟨.inr rfl,_,_,rfl,rfl,?_⟩
    simp[q0q,q6x,h14]
   ·repeat' first|refine Y2v ?_|refine Y2x ?_|refine Y2s ?_|refine Y2J hP rfl ?_|(refine Y2A hP (by simp+contextual-implicitDefEqProofs [h3,h18,h14]<;>rfl) ?_;dsimp only[goK])|simp only[q0a,q0c,q0d,↓reduceIte,Nat.reduceEqDiff,reduceCtorEq]
    refine Y2u ⟨.inr rfl,_,_,rfl,rfl,?_⟩
    simp[q0q,q6x,h3,h18,h14]
end Go.Ax
set_option maxRecDepth 20000
noncomputable section
namespace Go.Ax
open Go.Proofs
def w64(n:Int):Int:=q9r .i64 n
variable{C:Ctx}{t:TypeId}{a b:Int}
theorem bAddW:q0B C .add t (.int .i64 a) (.int .i64 b)=some (.int .i64 (w64 (a+b))):=by
 show some (AV.int .i64 (q9r .i64 (addI a b)))=_;rw[x3c];rfl
theorem bSubW:q0B C .sub t (.int .i64 a) (.int .i64 b)=some (.int .i64 (w64 (a-b))):=by
 show some (AV.int .i64 (q9r .i64 (subI a b)))=_;rw[z9a];rfl
theorem w64e{n:Int}(h1: -9223372036854775808≤n)(h2:n≤9223372036854775807):w64 n=n:=wrap_i64 h1 h2
theorem w64s{k:Nat}(h:k<9000000000000000000):w64 ((k:Int)+1)=((k+1:Nat):Int):=by rw[w64e (by omega) (by omega)];rfl
attribute [simp] bAddW bSubW
theorem z3V{α:Type}{l:List α}{p:α→Bool}{i:Nat}{x:α}(hx:l[i]? =some x):(l.take (i+1)).any p=((l.take i).any p||p x):=by
 obtain⟨h,rfl⟩:=Y0m.1 hx
 rw[Y1B h,List.any_append];simp
theorem q1U{α:Type}{l:List α}{p:α→Bool}{i:Nat}{x:α}(hx:l[i]? =some x):(l.take (i+1)).all p=((l.take i).all p&&p x):=by
 obtain⟨h,rfl⟩:=Y0m.1 hx
 rw[Y1B h,Y3p];simp
theorem q0b{α:Type}{l:List α}{i:Nat}(h:i<l.length):∃x,l[i]? =some x:=⟨_,Y0n h⟩
theorem z7u{α:Type}{l:List α}{p:α→Bool}{i:Nat}{x:α}(hx:l[i]? =some x)(hp:p x=true):l.any p=true:=Y2m.2 ⟨x,Y0N hx,hp⟩
theorem q3l{α:Type}{l:List α}{p:α→Bool}{i:Nat}{x:α}(hx:l[i]? =some x)(hp:p x=false):l.all p=false:=by
 cases h:l.all p with
 |false=>rfl
 |true=>rw[Y0G]at h;rw[h x (Y0N hx)]at hp;cases hp
theorem z7l{α β:Type}{f:α→List β}{c:Nat}:∀{l:List α},(∀x∈l,(f x).length≤c)→(l.flatMap f).length≤c*l.length
  |[],_=>by simp
  | a::l,h=>by
    have h1:=h a Y0T
    have h2:=z7l (l:=l) fun x hx=>h x (Y0U _ hx)
    rw[Y3q,Y0X,Y2i,Nat.mul_add]
    omega
theorem z4W{α β:Type}{f:α→List β}{l:List α}{i:Nat}{x:α}(hx:l[i]? =some x):(l.take (i+1)).flatMap f=(l.take i).flatMap f++f x:=by
 obtain⟨h,rfl⟩:=Y0m.1 hx
 rw[Y1B h,List.flatMap_append];simp
theorem z0R{h:Hp}{b k:Nat}{v:AV}{l:List Int}(ho:Own 1 q0x b h v (l.map cI))(hl:l≠ []):frzV (k+2) h v=some (.isl (l.map cI)):=by
  have :=ho.frz (k:=k+1) (rows':=l.map cI) (fun c hc=>by obtain⟨n,_,rfl⟩:=Y2S.1 hc;rfl) (by
    induction l with
    |nil=>rfl
    | cons a l ih=>
      simp only[Y1f,mapO,cI]
      have:∀l:List Int,mapO (mapO (frzV (k+1) h)) (l.map cI)=some (l.map cI):=fun l=>by
        induction l with
        |nil=>rfl
        |cons a l ih=>simp only[Y1f,mapO,cI,ih];rfl
      rw[this];rfl)
  rw[this]
  cases l with
  |nil=>exact absurd rfl hl
  |cons a l=>rfl
theorem q6S{gl:Nat→AV}{K:Knob}:z8s ((Ctx.of Tryz.prog gl K).ti q0m)=true:=by simp[z8s,z2r]
theorem z9b{h:Hp}{es:Nat}{xs:List (List AV)}(hx:∀c∈xs,c.length=es):q0N h es xs.length (.isl xs)=some xs.flatten:=by
 unfold q0N
 have:(xs.all fun c=>Nat.beq c.length es)=true:=Y0G.2 fun c hc=>by rw[hx c hc];exact Y1o _
 dsimp only
 rw[this]
 simp[q3m]
theorem q1v{l:List Int}:∀c∈l.map cI,c.length=1:=fun c hc=>by obtain⟨n,_,rfl⟩:=Y2S.1 hc;rfl
theorem z0L{l:List Int}:(l.map cI).flatten.all q1f=true:=by
 induction l with
 |nil=>rfl
 |cons a l ih=>simp
theorem ints_frz{h:Hp}{k:Nat}(l:List Int):mapO (mapO (frzV (k+1) h)) (l.map cI)=some (l.map cI):=by
  induction l with
  |nil=>rfl
  | cons a l ih=>
    simp only[Y1f,mapO,cI,ih]
    rfl
def joinQ{ι:Type}(K:ι→Kn)(H:ι→Hp→Prop)(ds:List ADef)(Q:PQ):PQ
 | .normal,l,h,ds'=>∃y,ds'=ds∧Less l (K y)∧H y h
 |e,l,h,ds'=>Q e l h ds'
theorem TW.join{P:Program}{F:Nat→Option Obj}{c d:Code}{n:Nat}{rd:Option Nat}{l:Kn}{h:Hp}{ds:List ADef}{Q:PQ}{ι:Type}(K:ι→Kn)(H:ι→Hp→Prop)
    (h1:TW P F c n rd l h ds (joinQ K H ds Q)) (h2:∀y g,H y g→TW P F d n rd (K y) g ds Q):TW P F (.seq c d) n rd l h ds Q:=
  Y2v (h1.mono fun e l' h' ds' hq=>by
    cases e with
    | normal=>
      obtain⟨y,rfl,h3,h4⟩:=hq
      exact(h2 y h' h4).less h3
    |exit i=>exact hq
    |goto i=>exact hq
    |ret=>exact hq
    |panic v=>exact hq)
abbrev Y3r:=@TW.join
end Go.Ax
set_option maxRecDepth 20000
noncomputable section
namespace Go.Ax
open Go.Proofs
attribute [local irreducible] TW TO CallsT PureC
variable{F:Nat→Option Obj}{gl:Nat→AV}{K:Knob}
def z6z(t:List LType):Bool:=(t.take 30).any (fun x=>decide (20<x.parts.list.length))||decide (20<t.length)
theorem x4x(hP:POk Tryz.prog F gl K)(t:Sl LType):PureC Tryz.prog F q5r [t.av LType.cells] (.bool (z6z t.list)):=by
 refine zP z3l ?_
 refine zA0 ?_
 refine Y2H (fun i:Nat=>[(0,t.av LType.cells),(2,.bool false),(3,.int .i64 i)]) (fun i _=>i≤t.list.length∧i≤30∧(t.list.take i).any (fun x=>decide (20<x.parts.list.length))=false) (fun i=>t.list.length-i) (0) ?_ ?_ ?_
 focus(repeat' first|exact q0h|refine q0e (by simp) ?_)
 ·simp
 rintro i g ⟨hi,hi30,hall⟩
 have fin:∀{b:Bool},¬(i<t.list.length∧i<30)→b=decide (20<(t.list.length:Int))→AV.bool b= .bool (z6z t.list):=fun hc e=>by
  have:(t.list.take 30).any (fun x=>decide (20<x.parts.list.length))=false:=by
   by_cases h:i<t.list.length
   ·have:i=30:=by omega
    subst this;exact hall
   ·rw[Y2Q (by omega)]at hall⊢;exact hall
  rw[e];simp[z6z,this];omega
 repeat' first|refine zR0 ?_|refine zS (fun hb=> ?_) (fun hb=> ?_)|fail
 ·refine Y2w hP rfl (fun hc=>Y2s ?_) (fun hc=>Y2t ?_)
  ·simp at hb hc
   obtain⟨x,hx⟩:=q0b hb
   have hav:=q0j (e:=LType.cells) (show 0<t.list.length by omega)
   have hs:=z3V (p:=fun x=>decide (20<x.parts.list.length)) hx
   dsimp only[q0a]
   repeat' first|refine zA0f (zc @hx @hav) ?_|(refine Y2w hP rfl (fun hc=> ?_) (fun hc=> ?_)<;>simp at hc)
   ·simp only[z6z]
    rw[z7u (i:=i) (x:=x)]<;>simp[Y0k,hx]<;>omega
   ·refine⟨i+1,by omega,trivial,?_,by omega,by omega,by rw[hs,hall];simp;omega⟩
    exact zLf (zc @hav (w64s (show i<9000000000000000000 by omega)))
  ·simp at hb hc
   dsimp only[q0a]
   refine zA0 ?_
   exact fin (by omega) rfl
 ·simp at hb
  refine zA0 ?_
  exact fin (by omega) rfl
def q7s(t:List LType)(k:Int):Int:=match t[k.toNat]? with|some x=>x.kind|none=>0
def q6P(t:List LType)(k:Int):Bool:=decide (0≤k)&&(decide (k<t.length)&&(decide (q7s t k=1)||(decide (q7s t k=2)||decide (q7s t k=3))))
theorem q9F(hP:POk Tryz.prog F gl K)(t:Sl LType)(k:Int):PureC Tryz.prog F q5q [t.av LType.cells,.int .i64 k] (.bool (q6P t.list k)):=by
 refine zP z3k ?_
 by_cases h0:0≤k
 ·obtain⟨n,rfl⟩:=Y3j h0
  by_cases hn:n<t.list.length
  ·obtain⟨x,hx⟩:=q0b hn
   have hav:=q0j (e:=LType.cells) (show 0<t.list.length by omega)
   repeat' first|refine zA0f (zc (Y2G hn) (zc @hx @hav)) ?_|refine zSf (zc (Y2G hn) (zc @hx @hav)) (fun hb=> ?_) (fun hb=> ?_)|fail
   all_goals simp_all[q6P,q7s]
  ·refine zA0f @hn ?_
   simp[q6P,hn]
 ·refine zA0f @h0 ?_
  simp[q6P,h0]
def q2R(l:List Int)(k:Int):Bool:=l.all fun n=>decide (0≤n)&&decide (n<k)
theorem x3B(hP:POk Tryz.prog F gl K)(l:Sl Int)(k:Int)(hlen:l.list.length<1000000):PureC Tryz.prog F q5p [l.av cI,.int .i64 k] (.bool (q2R l.list k)):=by
 refine zP z3j ?_
 refine zA0 ?_
 refine Y2H (fun i:Nat=>[(0,l.av cI),(1,.int .i64 k),(4,.bool false),(5,.int .i64 i)]) (fun i _=>i≤l.list.length∧(l.list.take i).all (fun n=>decide (0≤n)&&decide (n<k))=true) (fun i=>l.list.length-i) (0) ?_ ?_ ?_
 focus(repeat' first|exact q0h|refine q0e (by simp) ?_)
 ·simp
 rintro i g ⟨hi,hall⟩
 refine zR0 ?_
 refine Y2w hP rfl (fun hc=>Y2s ?_) (fun hc=>Y2t ?_)
 ·simp at hc
  obtain⟨x,hx⟩:=q0b hc
  have hav:=q0j (e:=cI) (show 0<l.list.length by omega)
  have hs:=q1U (p:=fun n=>decide (0≤n)&&decide (n<k)) hx
  dsimp only[q0a]
  repeat' first|refine zA0f (zc @hx @hav) ?_|refine zSf (zc @hx @hav) (fun hb=> ?_) (fun hb=> ?_)|(refine Y2w hP rfl (fun hc=> ?_) (fun hc=> ?_)<;>simp at hc)
  all_goals simp at hb
  ·rw[q2R,q3l hx];simp;omega
  ·refine⟨i+1,by omega,trivial,?_,by omega,by rw[hs,hall];simp;omega⟩
   exact zLf (zc @hav (w64s (show i<9000000000000000000 by omega)))
  ·rw[q2R,q3l hx];simp;omega
 ·simp at hc
  dsimp only[q0a]
  rw[Y2Q hc]at hall
  refine zA0 ?_
  rw[q2R,hall]
def z5k(t:List LType)(x:LType):Bool:=x.parts.list.all (q6P t)&&(q6P t x.elem&&(decide ((x.parts.list.length:Int)≤4)&&decide (x.many=0)))
theorem x3z(hP:POk Tryz.prog F gl K)(t:Sl LType)(x:LType)(hlen:x.parts.list.length<1000000):PureC Tryz.prog F q5o [t.av LType.cells,.agg x.cells] (.bool (z5k t.list x)):=by
  refine zP z3i ?_
  refine zA0 ?_
  refine Y2H (fun i:Nat=>[(0,t.av LType.cells),(3,.ptr 0 0),(4,.bool false),(5,.int .i64 i)]) (fun i g=>i≤x.parts.list.length∧g.get 0=some (.cells q6q x.cells)∧(x.parts.list.take i).all (q6P t.list)=true) (fun i=>x.parts.list.length-i) (0) ?_ ?_ ?_
  focus(repeat' first|exact q0h|refine q0e (by simp) ?_)
  ·simp
  rintro i g ⟨hi,hg,hall⟩
  dsimp only[q6q]at hg
  refine zR0f @hg ?_
  refine Y2w hP rfl (fun hc=>Y2s ?_) (fun hc=>Y2t ?_)
  · simp at hc
    obtain⟨k,hx⟩:=q0b hc
    have hav:=q0j (e:=cI) (show 0<x.parts.list.length by omega)
    have hs:=q1U (p:=q6P t.list) hx
    dsimp only[q0a]
    repeat' first|refine zA1f (zc @hx (zc @hav @hg)) q3s (q9F hP t k) ?_|(refine Y2w hP rfl (fun hc=> ?_) (fun hc=> ?_)<;>simp at hc)
    ·rw[z5k,q3l hx hc];rfl
    · refine⟨i+1,by omega,trivial,?_,by omega,hg,by rw[hs,hall,hc];rfl⟩
      exact zLf (zc @hav (w64s (show i<9000000000000000000 by omega)))
  · simp at hc
    dsimp only[q0a]
    rw[Y2Q hc]at hall
    cases hp:q6P t.list x.elem with
    | false=>
      refine zA1f (zc @hg @hp) q3s (q9F hP t x.elem) ?_
      simp[z5k,hp]
    | true=>
      repeat' first|refine zA1f (zc @hg @hp) q3s (q9F hP t x.elem) ?_|refine zSf (zc @hg @hp) (fun hb=> ?_) (fun hb=> ?_)|fail
      all_goals (simp at hb;simp[z5k,hp,hall];omega)
def q1T(t:List LType)(k:Nat):Bool:=
  match t[k]? with
  |none=>false
  | some x=>
    if x.kind=1 then decide (x.elem=0)&&(decide (x.many=0)&&decide (x.parts.list.length=0))
    else if x.kind=2 then decide (0≤x.elem)&&(decide (x.elem<t.length)&&(decide (x.many=0)&&decide (x.parts.list.length=0)))
    else if x.kind=3 then z5k t x
    else if x.kind=4 then decide (x.elem=0)&&(decide (x.many=0)&&(decide ((1:Int)≤x.parts.list.length)&&(decide ((x.parts.list.length:Int)≤8)&&q2R x.parts.list k)))
    else if x.kind=5 then decide (0≤x.elem)&&(decide (x.elem<k)&&(decide (1≤x.many)&&(decide (x.many≤16)&&decide (x.parts.list.length=0))))
    else false
theorem z9L(hP:POk Tryz.prog F gl K)(t:Sl LType)(k:Nat)(hk:k<t.list.length)(hp:∀x∈t.list,x.parts.list.length<1000000):PureC Tryz.prog F q4k [t.av LType.cells,.int .i64 k] (.bool (q1T t.list k)):=by
 refine zP z1q ?_
 obtain⟨x,hx⟩:=q0b hk
 have hpx:=hp x (Y0N hx)
 have hav:=q0j (e:=LType.cells) (show 0<t.list.length by omega)
 repeat' first|refine zA1f (zc @hx @hav) z2W (x3B hP x.parts k hpx) ?_|(refine Y2O hP z2V (by have hpc:=x3z hP t x hpx;rw[hav]at hpc;exact hpc) ?_ rfl rfl rfl rfl ?_;(focus(simp;done));refine Y2X hP (by simp[hx,hav]<;>rfl) ?_;dsimp only[goK])|refine zSf (zc @hx @hav) (fun hb=> ?_) (fun hb=> ?_)|(refine Y2w hP rfl (fun hc=> ?_) (fun hc=> ?_)<;>simp at hc)
 all_goals (simp_all[q1T];try omega)
def ofN(t:List LType):Nat→Nat→List Int
  |0,_=>[]
  | d+1,k=>match t[k]? with
    |none=>[]
    |some x=>if x.kind=4 then x.parts.list.flatMap (fun p=>ofN t d p.toNat)else if x.kind=5 then(List.replicate x.many.toNat (ofN t d x.elem.toNat)).flatten else [(k:Int)]
theorem z9r{t:List LType}{d k:Nat}{x:LType}(hx:t[k]? =some x):ofN t (d+1) k=if x.kind=4 then x.parts.list.flatMap (fun p=>ofN t d p.toNat)else if x.kind=5 then(List.replicate x.many.toNat (ofN t d x.elem.toNat)).flatten else [(k:Int)]:=by
 conv=>lhs;unfold ofN
 rw[hx]
def ofS(t:List LType)(k:Nat):List Int:=ofN t (k+1) k
theorem x0C {t:List LType}:∀{d e k:Nat},(∀j≤k,q1T t j=true)→k<d→k<e→ofN t d k=ofN t e k
  |0,_,_,_,h,_=>absurd h (Y2K _)
  |_+1,0,_,_,_,h=>absurd h (Y2K _)
  | d + 1, e+1,k,hm,h1,h2=>by
    unfold ofN
    cases hx:t[k]? with
    |none=>rfl
    | some x=>
      have hk:=hm k (Y0u _)
      unfold q1T at hk
      rw[hx]at hk
      dsimp only at hk⊢
      split
      · rename_i h4
        have hl:q2R x.parts.list k=true:=by
          simp[h4]at hk
          exact hk.2.2.2.2
        have e1:∀l:List Int,(∀p∈l,0≤p∧p<k)→l.flatMap (fun p=>ofN t d p.toNat)=l.flatMap (fun p=>ofN t e p.toNat):=fun l=>by
          induction l with
          |nil=>intro _;rfl
          | cons a l ih=>
            intro hp
            have ha:=hp a Y0T
            rw[Y3q,Y3q,ih fun p hp'=>hp p (Y0U _ hp'),x0C (fun j hj=>hm j (by omega)) (by omega) (show a.toNat<e by omega)]
        exact e1 _ fun p hp=>by
          have:=Y0G.1 hl p hp
          simpa using this
      · split
        · rename_i h4 h5
          simp[h5]at hk
          rw[x0C (e:=e) (fun j hj=>hm j (by omega)) (by omega) (by omega)]
        ·rfl
theorem ofS_ne{t:List LType}:∀(k:Nat),k<t.length→(∀j≤k,q1T t j=true)→ofS t k≠ []:=by
  intro k
  induction k using Nat.strongRecOn with
  |_ k ih=>
  intro hk hm
  obtain⟨x,hx⟩:=q0b hk
  have hmk:=hm k (Y0u _)
  unfold q1T at hmk
  rw[hx]at hmk
  dsimp only at hmk
  have sub:∀p:Int,0≤p→p<k→ofN t k p.toNat≠ []:=fun p h0 h1=>by
    rw[x0C (e:=p.toNat+1) (fun j hj=>hm j (by omega)) (by omega) (by omega)]
    exact ih p.toNat (by omega) (by omega) fun j hj=>hm j (by omega)
  rw[show ofS t k=_ from z9r hx]
  by_cases h4:x.kind=4
  · rw[Y0e h4]
    simp[h4]at hmk
    obtain⟨_,_,hn1,_,hlow⟩:=hmk
    cases hl:x.parts.list with
    |nil=>rw[hl]at hn1;simp at hn1
    | cons a l=>
      have:=Y0G.1 hlow a (by rw[hl];exact Y0T)
      simp at this
      rw[Y3q]
      intro e
      exact sub a this.1 this.2 (List.append_eq_nil_iff.1 e).1
  · rw[Y0c h4]
    by_cases h5:x.kind=5
    · rw[Y0e h5]
      simp[h5]at hmk
      obtain⟨m,hm⟩:∃m,x.many.toNat=m+1:=⟨x.many.toNat-1,by omega⟩
      rw[hm,List.replicate_succ,Y2P]
      intro e
      exact sub x.elem hmk.1 hmk.2.1 (List.append_eq_nil_iff.1 e).1
    ·rw[Y0c h5];simp
theorem Of3_pure(hP:POk Tryz.prog F gl K)(t:Sl LType)(hp:∀x∈t.list,x.parts.list.length<1000000):∀(k:Nat),k<t.list.length→(∀j≤k,q1T t.list j=true)→(∀j<k,(ofS t.list j).length≤32)→
    PureC Tryz.prog F q4X [t.av LType.cells,.int .i64 k] (.isl ((ofS t.list k).map cI)):=by
  intro k
  induction k using Nat.strongRecOn with
  |_ k ih=>
  intro hk hm hl
  obtain⟨x,hx⟩:=q0b hk
  have hpx:=hp x (Y0N hx)
  have hav:=q0j (e:=LType.cells) (show 0<t.list.length by omega)
  have hmk:=hm k (Y0u _)
  have hof:ofS t.list k=if x.kind=4 then x.parts.list.flatMap (fun p=>ofN t.list k p.toNat)else if x.kind=5 then(List.replicate x.many.toNat (ofN t.list k x.elem.toNat)).flatten else [(k:Int)]:=z9r hx
  unfold q1T at hmk
  rw[hx]at hmk
  dsimp only at hmk
  have sub:∀p:Int,0≤p→p<k→ofN t.list k p.toNat=ofS t.list p.toNat∧(ofS t.list p.toNat).length≤32∧PureC Tryz.prog F q4X [t.av LType.cells,.int .i64 p] (.isl ((ofS t.list p.toNat).map cI)):=fun p h0 h1=>by
    have e:((p.toNat:Nat):Int)=p:=Int.toNat_of_nonneg h0
    refine⟨x0C (fun j hj=>hm j (by omega)) (by omega) (by omega),hl _ (by omega),?_⟩
    have:=ih p.toNat (by omega) (by omega) (fun j hj=>hm j (by omega)) (fun j hj=>hl j (by omega))
    rwa [e]at this
  have hne:=ofS_ne k hk hm
  refine Y2z (O:=fun u g=>frzV 4 g u=some (.isl ((ofS t.list k).map cI))) (k:=4) (by simp[q3T z6I]) ?_ (fun u g e=>e)
  refine Y2y hP q0f z6e rfl rfl ?_
  by_cases h4:x.kind=4
  · rw [Y0e h4]at hof
    simp[h4]at hmk
    obtain⟨_,_,hn1,hn2,hlow⟩:=hmk
    have hof':ofS t.list k=x.parts.list.flatMap (fun q=>ofS t.list q.toNat):=by
      rw[hof]
      have e1:∀l:List Int,(∀p∈l,0≤p∧p<k)→l.flatMap (fun p=>ofN t.list k p.toNat)=l.flatMap (fun p=>ofS t.list p.toNat):=fun l=>by
        induction l with
        |nil=>intro _;rfl
        | cons a l ih2=>
          intro hp'
          have ha:=hp' a Y0T
          rw[Y3q,Y3q,ih2 fun p hp2=>hp' p (Y0U _ hp2),(sub a ha.1 ha.2).1]
      exact e1 _ fun p hp'=>by
        have:=Y0G.1 hlow p hp'
        simpa using this
    refine zA0f (zc @hx (zc @hav @h4)) ?_
    refine Y2H (fun p:Nat×AV=>[(0,t.av LType.cells),(5,.ptr 0 0),(6,p.2),(7,.int .i64 p.1)]) (fun p g=>p.1≤x.parts.list.length∧g.get 0=some (.cells q6q x.cells)∧1≤g.nx∧Own 1 q0x 1 g p.2 (((x.parts.list.take p.1).flatMap (fun q=>ofS t.list q.toNat)).map cI)) (fun p=>x.parts.list.length-p.1) ((0,.nilsl)) ?_ ?_ ?_
    focus(repeat' first|exact q0h|refine q0e (by simp[hav]) ?_)
    ·refine⟨Y0E _,?_,?_,.nil⟩<;>simp[LType.cells,h4]
    rintro⟨i,lv⟩ g ⟨hi,hg,hnx,hown⟩
    dsimp only[q6q,q0x]at hi hg hown⊢
    refine zR0f @hg ?_
    refine Y2w hP rfl (fun hc=>Y2s ?_) (fun hc=>Y2t ?_)
    · simp at hc
      obtain⟨q,hq⟩:=q0b hc
      have hav2:=q0j (e:=cI) (show 0<x.parts.list.length by omega)
      have hq2:=Y0G.1 hlow q (Y0N hq)
      simp at hq2
      obtain⟨e1,e2,e3⟩:=sub q hq2.1 hq2.2
      have bnd:=z7l (f:=fun q:Int=>ofS t.list q.toNat) (c:=32) (l:=x.parts.list.take i) fun p hp'=>by
        have h8:=Y0G.1 hlow p (Y1z hp')
        simp at h8
        exact(sub p h8.1 h8.2).2.1
      have bnd2:(x.parts.list.take i).length≤8:=by rw[Y1R];omega
      obtain⟨lv',g',happ,hown',hwb⟩:=Own.more (x:=.isl ((ofS t.list q.toNat).map cI)) (rows':=(ofS t.list q.toNat).map cI) (k:=((ofS t.list q.toNat).map cI).length) (q1a (gl:=gl) (K:=K)) q6S hown q1v rfl rfl (z9b q1v) q1v z0L (by simp only[Y1q];omega) hnx
      dsimp only[q0m]at happ
      rw[hav]at e3
      dsimp only[q0a]
      refine zA1f (zc @hq (zc @hav2 (zc @hg (zc @hav @happ)))) q7p e3 ?_
      refine⟨(i+1,lv'),by dsimp only;omega,trivial,?_,by dsimp only;omega,?_,?_,?_⟩
      ·exact zLf (zc (w64s (show i<9000000000000000000 by omega)) @hav)
      ·rw[hwb.get 0 (by omega)];exact hg
      ·have:=hwb.nx;omega
      ·dsimp only;rw[z4W hq,Y3m];exact hown'
    · simp at hc
      dsimp only[q0a]
      rw[Y2Q hc]at hown
      refine zA0 ?_
      rw[hof']
      exact z0R hown (by rw[←hof'];exact hne)
  · by_cases h5:x.kind=5
    · rw [Y0c h4,Y0e h5]at hof
      simp[h5]at hmk
      obtain⟨hm1,hm2,hm3,hm4,_⟩:=hmk
      obtain⟨e1,e2,e3⟩:=sub x.elem hm1 hm2
      rw[e1]at hof
      refine zA0f (zc @hx (zc @hav (zc @h4 @h5))) ?_
      refine Y2H (fun p:Nat×AV=>[(0,t.av LType.cells),(5,.ptr 0 0),(8,p.2),(9,.int .i64 p.1)]) (fun p g=>(p.1:Int)≤x.many∧g.get 0=some (.cells q6q x.cells)∧1≤g.nx∧Own 1 q0x 1 g p.2 (((List.replicate p.1 (ofS t.list x.elem.toNat)).flatten).map cI)) (fun p=>x.many.toNat-p.1) ((0,.nilsl)) ?_ ?_ ?_
      focus(repeat' first|exact q0h|refine q0e (by simp[hav]) ?_)
      ·refine⟨by dsimp only;omega,?_,?_,.nil⟩<;>simp[LType.cells,h5]
      rintro⟨i,lv⟩ g ⟨hi,hg,hnx,hown⟩
      dsimp only[q6q,q0x]at hi hg hown⊢
      refine zR0f @hg ?_
      refine Y2w hP rfl (fun hc=>Y2s ?_) (fun hc=>Y2t ?_)
      · simp at hc
        have bnd:((List.replicate i (ofS t.list x.elem.toNat)).flatten).length≤32*16:=by
          have e:∀n:Nat,((List.replicate n (ofS t.list x.elem.toNat)).flatten).length=n*(ofS t.list x.elem.toNat).length:=fun n=>by simp
          rw[e]
          exact Y0C (Nat.mul_le_mul (show i≤16 by omega) e2) (by omega)
        obtain⟨lv',g',happ,hown',hwb⟩:=Own.more (x:=.isl ((ofS t.list x.elem.toNat).map cI)) (rows':=(ofS t.list x.elem.toNat).map cI) (k:=((ofS t.list x.elem.toNat).map cI).length) (q1a (gl:=gl) (K:=K)) q6S hown q1v rfl rfl (z9b q1v) q1v z0L (by simp only[Y1q];omega) hnx
        dsimp only[q0m]at happ
        have e3':=e3
        rw[hav]at e3'
        dsimp only[q0a]
        refine zA1f (zc @hg (zc @hav @happ)) q7p e3' ?_
        refine⟨(i+1,lv'),by dsimp only;omega,trivial,?_,by dsimp only;omega,?_,?_,?_⟩
        ·exact zLf (zc (w64s (show i<9000000000000000000 by omega)) @hav)
        ·rw[hwb.get 0 (by omega)];exact hg
        ·have:=hwb.nx;omega
        · dsimp only
          rw[List.replicate_succ',Y1C,Y3m]
          simpa using hown'
      · simp at hc
        dsimp only[q0a]
        have:i=x.many.toNat:=by omega
        subst this
        refine zA0 ?_
        rw[hof]
        exact z0R hown (by rw[←hof];exact hne)
    · rw[Y0c h4,Y0c h5]at hof
      refine zA0f (zc @hx (zc @hav (zc @h4 @h5))) ?_
      rw[hof]
      simp[frzV,mapO,chunks,q3m]
def q5C(t:List LType)(k:Nat):Bool:=q1T t k&&decide ((ofS t k).length≤32)
def q8s(t:List LType):Int:=if 16<t.length then 4 else if(List.range t.length).all (q5C t)=true then 0 else 30
theorem x4J (hP:POk Tryz.prog F gl K)(t:Sl LType)(hp:∀x∈t.list,x.parts.list.length<1000000)(hlen:t.list.length<1000000):PureC Tryz.prog F q5s [t.av LType.cells] (.int .i64 (q8s t.list)):=by
  refine zP z3m ?_
  repeat' first|refine zA0 ?_|(refine Y2w hP rfl (fun hc=> ?_) (fun hc=> ?_)<;>simp at hc)
  · have:16<t.list.length:=by omega
    simp[q8s,this]
  · have h16:¬16<t.list.length:=by omega
    refine Y2H (fun i:Nat=>[(0,t.av LType.cells),(2,.int .i64 0),(3,.int .i64 i)]) (fun i _=>i≤t.list.length∧∀j<i,q5C t.list j=true) (fun i=>t.list.length-i) (0) ?_ ?_ ?_
    focus(repeat' first|exact q0h|refine q0e (by simp) ?_)
    ·exact⟨Y0E _,fun j hj=>absurd hj (Y2K _)⟩
    rintro i g ⟨hi,hall⟩
    have bad:i<t.list.length→q5C t.list i=false→AV.int .i64 30= .int .i64 (q8s t.list):=fun h1 h2=>by
      have:¬(List.range t.list.length).all (q5C t.list)=true:=fun h=>by
        have:=Y0G.1 h i (Y2o.2 h1)
        rw[h2]at this;cases this
      rw[q8s,Y0c h16,Y0c this]
    refine zR0 ?_
    refine Y2w hP rfl (fun hc=>Y2s ?_) (fun hc=>Y2t ?_)
    · simp at hc
      have hi2:=hc
      have e1:=z9L hP t i hc hp
      dsimp only[q0a]
      cases hm:q1T t.list i with
      | false=>
        refine zA1f @hm q6X e1 ?_
        exact bad hc (by simp[q5C,hm])
      | true=>
        have e2:=Of3_pure hP t hp i hc (fun j hj=>by
          by_cases h:j=i
          ·rw[h];exact hm
          ·have:=hall j (by omega);simp[q5C]at this;exact this.1) (fun j hj=>by have:=hall j hj;simp[q5C]at this;exact this.2)
        repeat' first|refine zA2f @hm q6X e1 q7p e2 ?_|(refine Y2w hP rfl (fun hc=> ?_) (fun hc=> ?_)<;>simp at hc)
        ·exact bad hi2 (by simp[q5C,hm];omega)
        · refine⟨i+1,by omega,trivial,?_,by omega,fun j hj=> ?_⟩
          ·exact zLf (w64s (show i<9000000000000000000 by omega))
          · by_cases h:j=i
            ·rw[h];simp[q5C,hm];omega
            ·exact hall j (by omega)
    · simp at hc
      dsimp only[q0a]
      refine zA0 ?_
      have:(List.range t.list.length).all (q5C t.list)=true:=Y0G.2 fun j hj=>hall j (by have:=Y2o.1 hj;omega)
      rw[q8s,Y0c h16,Y0e this]
def two6(op:Int):Bool:=(decide (4≤op)&&decide (op≤10))||(decide (op=15)||decide (op=17))
theorem z3C(hP:POk Tryz.prog F gl K)(op:Int):PureC Tryz.prog F q6J [.int .u8 op] (.bool (two6 op)):=by
 refine zP z5e ?_
 repeat' first|refine zA0 ?_|refine zS (fun hb=> ?_) (fun hb=> ?_)|fail
 all_goals (simp_all[two6];try omega)
def q2e(op:Int):Bool:=two6 op||(decide (op=13)||(decide (op=14)||(decide (op=16)||(decide (op=19)||decide (op=21)))))
theorem z4T(hP:POk Tryz.prog F gl K)(op:Int):PureC Tryz.prog F q6d [.int .u8 op] (.bool (q2e op)):=by
 refine zP z4w ?_
 repeat' first|refine zA1 q4t (z3C hP op) ?_|refine zS (fun hb=> ?_) (fun hb=> ?_)|fail
 all_goals (simp_all[q2e];try omega)
def q0C(op:Int):Bool:=decide (op=18)||(decide (op=19)||decide (op=22))
theorem q9L(hP:POk Tryz.prog F gl K)(op:Int):PureC Tryz.prog F q4i [.int .u8 op] (.bool (q0C op)):=by
 refine zP z1o ?_
 repeat' first|refine zA0 ?_|refine zS (fun hb=> ?_) (fun hb=> ?_)|fail
 all_goals (simp_all[q0C];try omega)
def q2K(op:Int):Bool:=decide (1≤op)&&(decide (op≤22)&&(!decide (op=13)&&(!decide (op=17)&& !decide (op=21))))
theorem z3W(hP:POk Tryz.prog F gl K)(op:Int):PureC Tryz.prog F q4j [.int .u8 op] (.bool (q2K op)):=by
 refine zP z1p ?_
 repeat' first|refine zA0 ?_|refine zS (fun hb=> ?_) (fun hb=> ?_)|fail
 all_goals (simp_all[q2K];try omega)
def x2J(nf:Int)(x:LIns):Bool:=
 if x.op=1 then true else if x.op=3∨x.op=18 then decide (0≤x.n)&&decide (x.n<nf)else if x.op=14 then decide (0≤x.n)&&decide (x.n<8)else decide (x.n=0)
theorem x6s(hP:POk Tryz.prog F gl K)(p:LProg)(x:LIns):PureC Tryz.prog F q5Y [.agg p.cells,.agg x.cells] (.bool (x2J p.funcs.list.length x)):=by
 refine zP z4r ?_
 repeat' first|refine zA0 ?_|refine zS (fun hb=> ?_) (fun hb=> ?_)|(refine Y2w hP rfl (fun hc=> ?_) (fun hc=> ?_)<;>simp at hc)
 all_goals (simp_all[x2J];try omega)
theorem q7W(hP:POk Tryz.prog F gl K)(l:Sl Int)(k:Int)(hlen:l.list.length<1000000):PureC Tryz.prog F q5k [l.av cI,.int .i64 k] (.bool (q2R l.list k)):=by
 refine zP z3e ?_
 refine zA0 ?_
 refine Y2H (fun i:Nat=>[(0,l.av cI),(1,.int .i64 k),(4,.bool false),(5,.int .i64 i)]) (fun i _=>i≤l.list.length∧(l.list.take i).all (fun n=>decide (0≤n)&&decide (n<k))=true) (fun i=>l.list.length-i) (0) ?_ ?_ ?_
 focus(repeat' first|exact q0h|refine q0e (by simp) ?_)
 ·simp
 rintro i g ⟨hi,hall⟩
 refine zR0 ?_
 refine Y2w hP rfl (fun hc=>Y2s ?_) (fun hc=>Y2t ?_)
 ·simp at hc
  obtain⟨x,hx⟩:=q0b hc
  have hav:=q0j (e:=cI) (show 0<l.list.length by omega)
  have hs:=q1U (p:=fun n=>decide (0≤n)&&decide (n<k)) hx
  dsimp only[q0a]
  repeat' first|refine zA0f (zc @hx @hav) ?_|refine zSf (zc @hx @hav) (fun hb=> ?_) (fun hb=> ?_)|(refine Y2w hP rfl (fun hc=> ?_) (fun hc=> ?_)<;>simp at hc)
  all_goals simp at hb
  ·rw[q2R,q3l hx];simp;omega
  ·refine⟨i+1,by omega,trivial,?_,by omega,by rw[hs,hall];simp;omega⟩
   exact zLf (zc @hav (w64s (show i<9000000000000000000 by omega)))
  ·rw[q2R,q3l hx];simp;omega
 ·simp at hc
  dsimp only[q0a]
  rw[Y2Q hc]at hall
  refine zA0 ?_
  rw[q2R,hall]
def q3h(x:LEnd):List Int:=if x.kind=2∨x.kind=3 then [x.a]else []
def slOf(l:List Int):AV:=match l with|[]=>.nilsl|l=>.isl (l.map cI)
theorem x6P(hP:POk Tryz.prog F gl K)(x:LEnd):PureC Tryz.prog F q8D [.agg x.cells] (slOf (q3h x)):=by
 refine Y2z (O:=fun u g=>frzV 3 g u=some (slOf (q3h x))) (k:=3) (by simp) ?_ (fun u g e=>e)
 refine Y2y hP q0f z4x rfl rfl ?_
 repeat' first|refine zA0 ?_|refine zS (fun hb=> ?_) (fun hb=> ?_)|(refine Y2w hP rfl (fun hc=> ?_) (fun hc=> ?_)<;>simp at hc)
 ·rw[show q3h x= [x.a]from Y0e (.inr hc)]
  simp[slOf,frzV,mapO,chunks,q3m]
 ·simp at hb
  rw[show q3h x= []from Y0c (by omega)]
  simp[slOf,frzV]
 ·simp at hb
  rw[show q3h x= [x.a]from Y0e (.inl hb)]
  simp[slOf,frzV,mapO,chunks,q3m]
end Go.Ax
