import Derived.Test.YtdfjkochhifpmaaGreatDoorV23
set_option linter.unusedSimpArgs false
set_option linter.unusedVariables false
set_option maxRecDepth 20000
noncomputable section
namespace Go.Ax
open Go.Proofs
attribute [local irreducible] TW TO CallsT PureC
variable{F:Nat→Option Obj}{gl:Nat→AV}{K:Knob}{S S':Nat→Prop}
variable{p:LProg}{f:Nat}{x:LFunc}{ks:Sl Int}{ps:Sl (Int×Int)}{nx:Nat→Option Nat}
@[simp] theorem a_makeInterface {P:Program} {C:Ctx} {ih:Code→St→Res} {st:St} {dd:Option Nat} {t:TypeId} {x:Operand} {ty:TypeId} {pos:String} {aft:Array Edge} {gd:Option (Nat×Bool)}:
  opA P C ih st ⟨dd,.makeInterface t x,ty,pos,aft,gd⟩=(match C.ti t with|some ti=>(match ti.desc with| .interface _=>none|_=>some (.val (.iface t (st.ev C x)) st.h))|none=>none):=rfl
def q2H(f b:Nat):List AV:=[.int .i64 f,.int .i64 b,.int .i64 120]
def q2T(f b:Nat):AV:=.iface q1W (.agg (q2H f b))
def z6A(l:List LBlock)(b i:Nat):Bool:=decide (i=0)||decide ((z2s l b (i-1)).op=22)
theorem x6h{y:LBlock}{z:LIns}{b k:Nat}(hb:x.blocks.list[b]? =some y)(hz:y.ins.list[k]? =some z):
  q5b p x b k=(q3H p x (q1c z)&&(q0r p z ((q1c z).map (q0K p x))&&if z.op=22 then(z6A x.blocks.list b k&&phiP p x z (q1p x.blocks.list b x.blocks.list.length))else q1O p x (q1c z) b k)):=by
 unfold q5b x2I phiP z6A
 rw[q7F hb hz]
 dsimp only
 congr 2
 split
 ·cases q6N z.frm.list (q1p x.blocks.list b x.blocks.list.length)<;>cases (decide (k=0)||decide ((z2s x.blocks.list b (k-1)).op=22))<;>simp
 ·rfl
theorem x1F{l:List Int}(hl:∀r∈l, -1≤q0K p x r):(((l.map (q0K p x)).any fun y=>decide ((-1:Int)=y)))= !q3H p x l:=by
  unfold q3H
  induction l with
  |nil=>rfl
  | cons a l ih=>
    have ha:=hl a Y0T
    rw[Y1f,List.any_cons,List.all_cons,ih fun r hr=>hl r (Y0U _ hr),Bool.not_and,←decide_not]
    congr 1
    exact Y3U.2 (by omega)
theorem z3B{p:LProg}{f:Nat}{x:LFunc}(H:FnAt p f x)(r:Int): -1≤q0K p x r:=by
  unfold q0K
  split
  · rename_i b i hw
    obtain⟨_,y,hy,hi,_⟩:=q6C hw
    unfold z0w
    split
    · unfold z2s
      split
      · rename_i y' hy'
        rw[Y3l]
        cases hz:y'.ins.list[i]? with
        |none=>simp
        | some z=>
          have:=(H.ins y' (Y0N hy') z (Y0N hz)).type.1
          simp;omega
      ·simp
    ·omega
  · rw [Y3l]
    unfold q1z
    split
    · rename_i ty hty
      cases hz:ty.parts.list[r.toNat]? with
      |none=>simp
      | some z=>
        have:=(H.ty.part ty (Y0N hty) z (Y0N hz)).1
        simp;omega
    ·simp
theorem x8m{p:LProg}{f:Nat}{x:LFunc}(H:FnAt p f x){b:Nat}{y:LBlock}(hy:x.blocks.list[b]? =some y){r:Int}(hr:r∈q3h y.ed):0≤r∧r<q2Y p x:=H.ends y (Y0N hy) r hr
set_option maxHeartbeats 8000000 in
theorem z8O (hV :Env2 F gl K) (H:Look p f x ks ps nx) (G:GateAt p f x) {b:Nat} (hb:b<x.blocks.list.length):
    PureC Tryz.prog F q7j [fnV p f ks ps (rulL nx x.blocks.list.length),.int .i64 b] (if q2m p x b=true then .nilif else q2T f b):=by
  have hP:=hV.env.P
  have hX:=hV.env.X
  obtain⟨y,hy⟩:=q0b hb
  have hbl:=Y2G hb
  have hbv:=q0j (e:=LBlock.cells) (show 0<x.blocks.list.length by omega)
  have hf:=H.fn.at_
  have hfl:=Y2G (Y0m.1 hf).1
  have hfv:=q0j (e:=LFunc.cells) (show 0<p.funcs.list.length by have:=(Y0m.1 hf).1;omega)
  obtain⟨hs1,hs2,hs3⟩:=H.fn.small
  have hin:=hs3 y (Y0N hy)
  have hIns:=H.fn.ins y (Y0N hy)
  have ePr:=x7s hV.env G b hb
  simp only[LProg.cells,hfv]at ePr
  obtain⟨R,hR⟩:∃R:AV,R=if q2m p x b=true then .nilif else q2T f b:=⟨_,rfl⟩
  rw[←hR]
  have hbad:∀k z,y.ins.list[k]? =some z→q5b p x b k=false→R=q2T f b:=fun k z hz hr=>by
    have hb12:q2m p x b=false:=by
      unfold q2m
      rw[hy]
      dsimp only
      have:((List.range y.ins.list.length).all fun i=>q5b p x b i)=false:=Y3E.2 ⟨k,Y2o.2 (Y0m.1 hz).1,by rw[hr];simp⟩
      rw[this];rfl
    rw[hR,hb12];rfl
  refine Y2z (O:=fun u _=>u=R) (k:=3) (by simp) ?_ (fun u g e=>by rw[e,hR];split<;>rfl)
  refine Y2y hP q0f z5Y rfl rfl ?_
  refine Y2U (fun _=>True) trivial fun g0 _=> ?_
  refine zR0 ?_
  refine zHf (zc @hf (zc @hfl (zc @hfv (zc @hy (zc @hbl @hbv))))) t0 (zw [0,1,3,7,15,0,32,96,224,511,1023,2047,0,8191,16383,0,65535]) ?_
  refine Y2U (fun m=>m.get g0.nx=some (.cells q1Q y.cells)∧m.nx=g0.nx+1) ⟨by simp,by simp⟩ fun m1 hm=> ?_
  obtain⟨h5,hn5⟩:=hm
  refine zEf (zc @hfv (zc @x2u @x2G)) (tl 133 [.agg [p.types.av LType.cells,.isl (p.funcs.list.map LFunc.cells)],.int .i64 f,.int .i64 b] (.tup [(slL (q1p x.blocks.list b x.blocks.list.length)).av cI,.int .i64 0]) (ePr) t0) ?_
  repeat first|refine Y2v ?_
  refine Y2W hP (by simp<;>rfl) ?_
  dsimp only[goK,q0a,q0c,q0d]
  obtain⟨q,hq⟩:∃q,q=g0.nx:=⟨_,rfl⟩
  have hq8:m1.nx=q+1:=by omega
  rw[←hq]
  rw[←hq]at h5
  simp only[hq8]
  refine Y2U (fun m=>m.get q=some (.cells q1Q y.cells)∧m.get (q+1)=some (.cells q1W (q2H f b))∧q+2≤m.nx) ⟨by simp[hq8,h5],by simp[hq8,q2H],by simp[hq8]⟩ fun m2 hm=> ?_
  obtain⟨h5',h8,hn8⟩:=hm
  clear h5 hn5
  have h5:=h5'
  dsimp only[q1Q,LBlock.cells]at h5
  have hlu:=fun h=>q3j (C:=Ctx.of Tryz.prog gl K) (t:=z0y) (h:=h) (q2c (e:=LIns.cells) y.ins) (q4B _)
  dsimp only[z0y]at hlu
  have hah:(slL (q1p x.blocks.list b x.blocks.list.length)).list=q1p x.blocks.list b x.blocks.list.length:=q0l _
  have hf0:z6A x.blocks.list b 0=true:=rfl
  refine zR0f (zc @h5 @hlu) ?_
  refine Y2H (fun k:Nat=>[(0,fnV p f ks ps (rulL nx x.blocks.list.length)),(1,.int .i64 b),(5,.ptr q 0),(6,(slL (q1p x.blocks.list b x.blocks.list.length)).av cI),(8,.ptr (q+1) 0),(9,.bool (z6A x.blocks.list b k)),(51,y.ins.av LIns.cells),(52,.int .i64 y.ins.list.length),(53,.int .i64 k)]) (fun k g=>k≤y.ins.list.length∧g.get q=some (.cells q1Q y.cells)∧g.get (q+1)=some (.cells q1W (q2H f b))∧q+2≤g.nx∧(∀i,i<k→q5b p x b i=true)) (fun k=>y.ins.list.length-k) (0) ?_ ?_ ?_
  focus(repeat' first|exact q0h|refine q0e (by simp[hfv,hy,hf0]) ?_)
  ·exact⟨Y0E _,h5',h8,hn8,fun i hi=>absurd hi (Y2K i)⟩
  clear h5 h5' h8 hn8
  rintro k g ⟨hk,h5',h8',hn8,hall⟩
  have h5:=h5'
  have h8:=h8'
  dsimp only[q1Q,LBlock.cells]at h5
  dsimp only[q1W,q2H]at h8
  refine zR0 ?_
  refine Y2w hP rfl (fun hc=>Y2s ?_) (fun hc=>Y2t ?_)
  · simp at hc
    obtain⟨z,hz⟩:=q0b hc
    have hzd:=Y2G hc
    have hiv:=q0j (e:=LIns.cells) (show 0<y.ins.list.length by omega)
    have I:=hIns z (Y0N hz)
    have hul:=x0H I.args
    have hop:=I.op
    have eU:=Uses_pure hP hV.env.G z (by omega) (by omega) (by have:=I.args;omega)
    rw[z6F]at eU
    have eO:=z3K (p:=p) (f:=f) (ks:=ks) (ps:=ps) (rl:=rulL nx x.blocks.list.length) hP H.ok H.sg (slL (q1c z)) (by rw[q0l];exact I.uses) (by rw[q0l];omega)
    rw[q0l]at eO
    have eC:=q4r hP (slL ((q1c z).map (q0K p x))) (-1) (by rw[q0l];simp;omega)
    rw[q0l,x1F (fun r _=>z3B H.fn r)]at eC
    have eR:=x2a (p:=p) (f:=f) (ks:=ks) (ps:=ps) (rl:=rulL nx x.blocks.list.length) hP hX H.fn.ty H.fn.sigs z I ((q1c z).map (q0K p x)) (by simp) (by simp;omega) (fun t ht=>by obtain⟨r,_,rfl⟩:=Y2S.1 ht;exact⟨z3B H.fn r,z0E H.fn r⟩)
    have hr12:=x6h (p:=p) (x:=x) hy hz
    dsimp only[q0a]
    repeat first|refine Y2v ?_|refine Y2x ?_
    refine Y2W hP (by simp[hz,hzd,hiv]<;>rfl) ?_
    dsimp only[goK,q0a,q0c,q0d]
    have hia:=q7F hy hz
    have hsucc:z6A x.blocks.list b (k+1)=decide (z.op=22):=by unfold z6A;rw[Y0d,hia];simp
    have eP:=fun h=>phi_pure (p:=p) (f:=f) hP hX H z I h (slL (q1p x.blocks.list b x.blocks.list.length))
    rw[q0l]at eP
    have eS:=z3v (at_:=(k:Int)) hP H hb (slL (q1c z)) (by rw[q0l];exact I.uses) (by rw[q0l];omega)
    rw[q0l]at eS
    refine Y2U (fun m=>m.get q=some (.cells q1Q y.cells)∧m.get (q+1)=some (.cells q1W (q2H f b))∧q+2≤m.nx∧m.get g.nx=some (.cells q1e z.cells)) ⟨by rw[get_put,Y0c (by omega),get_new,Y0c (by omega)];exact h5',by rw[get_put,Y0c (by omega),get_new,Y0c (by omega)];exact h8',by show q+2≤g.nx+1;omega,by rw[get_put,Y0e rfl];rfl⟩ fun m hm=> ?_
    clear h5 h5' h8 h8'
    obtain⟨h5',h8',hn8',hgi⟩:=hm
    have h8:=h8'
    dsimp only[q1W,q2H]at h8
    dsimp only[q1e,LIns.cells]at hgi
    have hnext:q5b p x b k=true→∀i,i<k+1→q5b p x b i=true:=fun h i hi=>by
      by_cases e:i=k
      ·rw[e];exact h
      ·exact hall i (by omega)
    cases ht:q3H p x (q1c z)with
    | false=>
      have hbR:=hbad k z hz (by rw[hr12,ht];rfl)
      simp only[ht,Y3f]at eC
      refine zA3f (zc @h8 @hgi) q4f eU q0P eO q0D eC ?_
      all_goals (rw[hbR];rfl)
    | true =>
      simp only[ht,Y1k]at eC
      cases hty:q0r p z ((q1c z).map (q0K p x))with
      | false=>
        have hbR:=hbad k z hz (by rw[hr12,ht,hty];rfl)
        rw[hty]at eR
        refine zA4f (zc @h8 @hgi) q4f eU q0P eO q0D eC q2G eR ?_
        all_goals (rw[hbR];rfl)
      | true =>
        rw[hty]at eR
        by_cases h22:z.op=22
        · have eP:=eP h22
          simp only[LIns.cells,h22]at eP eU eR
          cases hfb:z6A x.blocks.list b k with
          | false=>
            have hbR:=hbad k z hz (by rw[hr12,ht,hty,Y0e h22,hfb];rfl)
            refine zA4f (zc @h8 (zc @hgi (zc @h22 @hfb))) q4f eU q0P eO q0D eC q2G eR ?_
            all_goals (rw[hbR];rfl)
          | true=>
            cases hph:phiP p x z (q1p x.blocks.list b x.blocks.list.length)with
            | false=>
              have hbR:=hbad k z hz (by rw[hr12,ht,hty,Y0e h22,hfb,hph];rfl)
              rw[hph]at eP
              repeat' first|refine zA4f (zc @h8 (zc @hgi (zc @h22 @hfb))) q4f eU q0P eO q0D eC q2G eR ?_|(refine Y2O hP z2o (eP) ?_ rfl rfl rfl rfl ?_;(focus(simp;done));refine Y2X hP (by simp[h8,hgi,h22,hfb]<;>rfl) ?_;dsimp only[goK])
              all_goals (rw[hbR];rfl)
            | true=>
              rw[hph]at eP
              have hgood:=hnext (by rw[hr12,ht,hty,Y0e h22,hfb,hph];rfl)
              repeat' first|refine zA4f (zc @h8 (zc @hgi (zc @h22 @hfb))) q4f eU q0P eO q0D eC q2G eR ?_|(refine Y2O hP z2o (eP) ?_ rfl rfl rfl rfl ?_;(focus(simp;done));refine Y2X hP (by simp[h8,hgi,h22,hfb]<;>rfl) ?_;dsimp only[goK])
              refine⟨k+1,by omega,trivial,?_,by omega,h5',h8',by omega,hgood⟩
              rw[hsucc,Y2G h22]
              exact zLf (zc @hiv (zc @hfb (w64s (show k<9000000000000000000 by omega))))
        · cases hst:q1O p x (q1c z) b k with
          | false=>
            have hbR:=hbad k z hz (by rw[hr12,ht,hty,Y0c h22,hst];rfl)
            rw[hst]at eS
            repeat' first|refine zA4f (zc @h8 (zc @hgi @h22)) q4f eU q0P eO q0D eC q2G eR ?_|(refine Y2O hP z2n (eS) ?_ rfl rfl rfl rfl ?_;(focus(simp;done));refine Y2X hP (by simp[h8,hgi,h22]<;>rfl) ?_;dsimp only[goK])
            all_goals (rw[hbR];rfl)
          | true=>
            rw[hst]at eS
            have hgood:=hnext (by rw[hr12,ht,hty,Y0c h22,hst];rfl)
            repeat' first|refine zA4f (zc @h8 (zc @hgi @h22)) q4f eU q0P eO q0D eC q2G eR ?_|(refine Y2O hP z2n (eS) ?_ rfl rfl rfl rfl ?_;(focus(simp;done));refine Y2X hP (by simp[h8,hgi,h22]<;>rfl) ?_;dsimp only[goK])
            refine⟨k+1,by omega,trivial,?_,by omega,h5',h8',by omega,hgood⟩
            rw[hsucc,Y2F h22]
            exact zLf (zc @hiv (w64s (show k<9000000000000000000 by omega)))
  · simp at hc
    obtain rfl:k=y.ins.list.length:=by omega
    have hall2:((List.range y.ins.list.length).all fun i=>q5b p x b i)=true:=Y0G.2 fun i hi=>hall i (Y2o.1 hi)
    have hR12:R=if z3p p x b y=true then .nilif else q2T f b:=by
      have hbk:q2m p x b=z3p p x b y:=by
        unfold q2m
        rw[hy]
        dsimp only
        rw[hall2]
        rfl
      rw[hR,hbk]
    have hfl2:q2T f b= .iface 134 (.agg [.int .i64 f,.int .i64 b,.int .i64 120]):=rfl
    rw[hfl2]at hR12
    clear hR hbad hall hall2
    have eE:=Ends_pure hP y.ed
    rw[z6F]at eE
    dsimp only[q0a]
    rcases z3S H.fn.ok y (Y0N hy)with hkd|hkd|hkd
    · have hE:q3h y.ed= []:=by simp[q3h,hkd]
      have eO:=z3K (p:=p) (f:=f) (ks:=ks) (ps:=ps) (rl:=rulL nx x.blocks.list.length) hP H.ok H.sg .nil (by simp[Sl.list]) (by simp[Sl.list])
      have eC:=q4r hP .nil (-1) (by simp[Sl.list])
      have eS:=z3v (at_:=(y.ins.list.length:Int)) hP H hb .nil (by simp[Sl.list]) (by simp[Sl.list])
      rw[hE]at eE
      simp only[q1O,Sl.list,List.all_nil,List.any_nil,List.map_nil,slL,Sl.av]at eO eC eS eE
      simp only[LEnd.cells,hkd]at eE
      have hen:z3p p x b y= !decide (y.ed.to=0):=by
        simp[z3p,hE,q3H,q1O,to9,hkd,in27]
      by_cases hto:y.ed.to=0
      · refine zR2f (zc @h5 (zc @hlu @hkd)) q1L eE q0P eO ?_
        refine zEf (zc @h5 (zc @hlu (zc @hkd (zc @q0t (zc @q0u (zc @q2n (zc @q2o (zc @q0I @q0J)))))))) (tl 86 [.nilsl,.int .i64 (-1)] (.bool false) (eC) (tl 75 [.agg [.int .u8 1,.int .i64 y.ed.a,.int .i64 y.ed.to,.int .i64 y.ed.els]] (.nilsl) (eE) (tl 137 [fnV p f ks ps (rulL nx x.blocks.list.length),.int .i64 b,.int .i64 y.ins.list.length,.nilsl] (.bool true) (eS) t0))) ?_
        repeat' first|refine Y2v ?_|refine Y2x ?_|refine Y2s ?_|refine Y2t ?_|refine Y2I hP rfl ?_|refine Y2J hP rfl ?_|(refine Y2W hP (by simp[h5,h8',q1W,q2H,hkd,hto]<;>rfl) ?_;dsimp only[goK])|simp only[q0a,q0c,q0d,↓reduceIte,Nat.reduceEqDiff,reduceCtorEq]|(refine Y2u ⟨.inr rfl,_,_,rfl,rfl,?_⟩;dsimp only[q0q])
        all_goals (rw[hR12,hen];simp[hto])
      · refine zR2f (zc @h5 (zc @hlu @hkd)) q1L eE q0P eO ?_
        refine zEf (zc @h5 (zc @hlu (zc @hkd (zc @q0t (zc @q0u (zc @q2n (zc @q2o (zc @q0I @q0J)))))))) (tl 86 [.nilsl,.int .i64 (-1)] (.bool false) (eC) (tl 75 [.agg [.int .u8 1,.int .i64 y.ed.a,.int .i64 y.ed.to,.int .i64 y.ed.els]] (.nilsl) (eE) (tl 137 [fnV p f ks ps (rulL nx x.blocks.list.length),.int .i64 b,.int .i64 y.ins.list.length,.nilsl] (.bool true) (eS) t0))) ?_
        repeat' first|refine Y2v ?_|refine Y2x ?_|refine Y2s ?_|refine Y2t ?_|refine Y2I hP rfl ?_|refine Y2J hP rfl ?_|(refine Y2W hP (by simp[h5,h8',q1W,q2H,hkd,hto]<;>rfl) ?_;dsimp only[goK])|simp only[q0a,q0c,q0d,↓reduceIte,Nat.reduceEqDiff,reduceCtorEq]|(refine Y2u ⟨.inr rfl,_,_,rfl,rfl,?_⟩;dsimp only[q0q])
        all_goals (rw[hR12,hen];simp[hto])
    · have hE : q3h y.ed= [y.ed.a]:=by simp[q3h,hkd]
      have hua:∀r∈(Sl.mk [y.ed.a]).list,0≤r∧r<q2Y p x:=fun r hr=>by
        have:r=y.ed.a:=by simpa [Sl.list]using hr
        rw[this]
        exact x8m H.fn hy (by rw[hE];simp)
      have eO:PureC Tryz.prog F q5P [fnV p f ks ps (rulL nx x.blocks.list.length),.isl [[.int .i64 y.ed.a]]] (.isl [[.int .i64 (q0K p x y.ed.a)]]):=z3K (p:=p) (f:=f) (ks:=ks) (ps:=ps) (rl:=rulL nx x.blocks.list.length) hP H.ok H.sg (.mk [y.ed.a]) hua (by simp[Sl.list])
      have eC:PureC Tryz.prog F q1A [.isl [[.int .i64 (q0K p x y.ed.a)]],.int .i64 (-1)] (.bool (decide (-1=q0K p x y.ed.a)||false)):=q4r hP (.mk [q0K p x y.ed.a]) (-1) (by simp[Sl.list])
      have eS:PureC Tryz.prog F q0y [fnV p f ks ps (rulL nx x.blocks.list.length),.int .i64 b,.int .i64 y.ins.list.length,.isl [[.int .i64 y.ed.a]]] (.bool (q3g p x y.ed.a b y.ins.list.length&&true)):=z3v (at_:=(y.ins.list.length:Int)) hP H hb (.mk [y.ed.a]) hua (by simp[Sl.list])
      rw[Bool.and_true]at eS
      rw[Bool.or_false]at eC
      have tge:=z3B H.fn y.ed.a
      have tlt:=z0E H.fn y.ed.a
      rw[hE]at eE
      have eE:PureC Tryz.prog F q6T [.agg y.ed.cells] (.isl [[.int .i64 y.ed.a]]):=eE
      simp only[LEnd.cells,hkd]at eE
      have eI:=q5J (p:=p) (f:=f) (ks:=ks) (ps:=ps) (rl:=rulL nx x.blocks.list.length) (kd:=1) hP hX tge tlt
      have hen:z3p p x b y=(decide (0≤q0K p x y.ed.a)&&(q3g p x y.ed.a b y.ins.list.length&&(!(decide (y.ed.to=0)||decide (y.ed.els=0))&&isT p.types.list (q0K p x y.ed.a) 1))):=by
        unfold z3p
        rw[hE,Y0e hkd]
        by_cases hte:y.ed.to=y.ed.els
        ·simp[q3H,q1O,to9,hkd,in27,hte]
        ·simp[q3H,q1O,to9,hkd,in27,hte]
      generalize q0K p x y.ed.a=t at*
      by_cases ht0:0≤t
      · rw [Y2F (show¬((-1:Int)=t) by omega)]at eC
        cases hst:q3g p x y.ed.a b y.ins.list.length with
        | false=>
          rw[hst]at eS
          refine zR2f (zc @h5 (zc @hlu @hkd)) q1L eE q0P eO ?_
          refine zEf (zc @h5 (zc @hlu (zc @hkd (zc @q0t (zc @q0u (zc @q2n (zc @q2o (zc @q0I @q0J)))))))) (tl 86 [.isl [[.int .i64 t]],.int .i64 (-1)] (.bool false) (eC) (tl 75 [.agg [.int .u8 2,.int .i64 y.ed.a,.int .i64 y.ed.to,.int .i64 y.ed.els]] (.isl [[.int .i64 y.ed.a]]) (eE) (tl 137 [fnV p f ks ps (rulL nx x.blocks.list.length),.int .i64 b,.int .i64 y.ins.list.length,.isl [[.int .i64 y.ed.a]]] (.bool false) (eS) t0))) ?_
          repeat' first|refine Y2v ?_|refine Y2x ?_|refine Y2t ?_|refine Y2I hP rfl ?_|(refine Y2W hP (by simp[h5,h8',q1W,q2H,hkd]<;>rfl) ?_;dsimp only[goK])|simp only[q0a,q0c,q0d,↓reduceIte,Nat.reduceEqDiff,reduceCtorEq]|(refine Y2u ⟨.inr rfl,_,_,rfl,rfl,?_⟩;dsimp only[q0q])
          all_goals (rw[hR12,hen];simp[hst])
        | true =>
          rw[hst]at eS
          cases hi:isT p.types.list t 1 with
          | false=>
            rw[hi]at eI
            refine zR2f (zc @h5 (zc @hlu @hkd)) q1L eE q0P eO ?_
            refine zEf (zc @h5 (zc @hlu (zc @hkd (zc @q0t (zc @q0u (zc @q2n (zc @q2o (zc @q0I @q0J)))))))) (tl 86 [.isl [[.int .i64 t]],.int .i64 (-1)] (.bool false) (eC) (tl 75 [.agg [.int .u8 2,.int .i64 y.ed.a,.int .i64 y.ed.to,.int .i64 y.ed.els]] (.isl [[.int .i64 y.ed.a]]) (eE) (tl 137 [fnV p f ks ps (rulL nx x.blocks.list.length),.int .i64 b,.int .i64 y.ins.list.length,.isl [[.int .i64 y.ed.a]]] (.bool true) (eS) t0))) ?_
            repeat' first|refine Y2v ?_|refine Y2x ?_|refine Y2t ?_|refine Y2I hP rfl ?_|(refine Y2W hP (by simp[h5,h8',q1W,q2H,hkd]<;>rfl) ?_;dsimp only[goK])|(refine Y2O hP q0g (eI) ?_ rfl rfl rfl rfl ?_;(focus(simp;done));refine Y2X hP (by simp[h5,h8',q1W,q2H,hkd]<;>rfl) ?_;dsimp only[goK])|simp only[q0a,q0c,q0d,↓reduceIte,Nat.reduceEqDiff,reduceCtorEq]|(refine Y2u ⟨.inr rfl,_,_,rfl,rfl,?_⟩;dsimp only[q0q])
            all_goals (rw[hR12,hen];simp[hi])
          | true=>
            rw[hi]at eI
            by_cases hto:y.ed.to=0
            · refine zR2f (zc @h5 (zc @hlu @hkd)) q1L eE q0P eO ?_
              refine zEf (zc @h5 (zc @hlu (zc @hkd (zc @q0t (zc @q0u (zc @q2n (zc @q2o (zc @q0I @q0J)))))))) (tl 86 [.isl [[.int .i64 t]],.int .i64 (-1)] (.bool false) (eC) (tl 75 [.agg [.int .u8 2,.int .i64 y.ed.a,.int .i64 y.ed.to,.int .i64 y.ed.els]] (.isl [[.int .i64 y.ed.a]]) (eE) (tl 137 [fnV p f ks ps (rulL nx x.blocks.list.length),.int .i64 b,.int .i64 y.ins.list.length,.isl [[.int .i64 y.ed.a]]] (.bool true) (eS) t0))) ?_
              repeat' first|refine Y2v ?_|refine Y2x ?_|refine Y2t ?_|refine Y2I hP rfl ?_|(refine Y2W hP (by simp[h5,h8',q1W,q2H,hkd,hto]<;>rfl) ?_;dsimp only[goK])|(refine Y2O hP q0g (eI) ?_ rfl rfl rfl rfl ?_;(focus(simp;done));refine Y2X hP (by simp[h5,h8',q1W,q2H,hkd,hto]<;>rfl) ?_;dsimp only[goK])|simp only[q0a,q0c,q0d,↓reduceIte,Nat.reduceEqDiff,reduceCtorEq]|(refine Y2u ⟨.inr rfl,_,_,rfl,rfl,?_⟩;dsimp only[q0q])
              all_goals (rw[hR12,hen];simp[hto])
            · by_cases hel:y.ed.els=0
              · refine zR2f (zc @h5 (zc @hlu @hkd)) q1L eE q0P eO ?_
                refine zEf (zc @h5 (zc @hlu (zc @hkd (zc @q0t (zc @q0u (zc @q2n (zc @q2o (zc @q0I @q0J)))))))) (tl 86 [.isl [[.int .i64 t]],.int .i64 (-1)] (.bool false) (eC) (tl 75 [.agg [.int .u8 2,.int .i64 y.ed.a,.int .i64 y.ed.to,.int .i64 y.ed.els]] (.isl [[.int .i64 y.ed.a]]) (eE) (tl 137 [fnV p f ks ps (rulL nx x.blocks.list.length),.int .i64 b,.int .i64 y.ins.list.length,.isl [[.int .i64 y.ed.a]]] (.bool true) (eS) t0))) ?_
                repeat' first|refine Y2v ?_|refine Y2x ?_|refine Y2t ?_|refine Y2I hP rfl ?_|(refine Y2W hP (by simp[h5,h8',q1W,q2H,hkd,hto,hel]<;>rfl) ?_;dsimp only[goK])|(refine Y2O hP q0g (eI) ?_ rfl rfl rfl rfl ?_;(focus(simp;done));refine Y2X hP (by simp[h5,h8',q1W,q2H,hkd,hto,hel]<;>rfl) ?_;dsimp only[goK])|simp only[q0a,q0c,q0d,↓reduceIte,Nat.reduceEqDiff,reduceCtorEq]|(refine Y2u ⟨.inr rfl,_,_,rfl,rfl,?_⟩;dsimp only[q0q])
                all_goals (rw[hR12,hen];simp[hel])
              · refine zR2f (zc @h5 (zc @hlu @hkd)) q1L eE q0P eO ?_
                refine zEf (zc @h5 (zc @hlu (zc @hkd (zc @q0t (zc @q0u (zc @q2n (zc @q2o (zc @q0I @q0J)))))))) (tl 86 [.isl [[.int .i64 t]],.int .i64 (-1)] (.bool false) (eC) (tl 75 [.agg [.int .u8 2,.int .i64 y.ed.a,.int .i64 y.ed.to,.int .i64 y.ed.els]] (.isl [[.int .i64 y.ed.a]]) (eE) (tl 137 [fnV p f ks ps (rulL nx x.blocks.list.length),.int .i64 b,.int .i64 y.ins.list.length,.isl [[.int .i64 y.ed.a]]] (.bool true) (eS) t0))) ?_
                repeat' first|refine Y2v ?_|refine Y2x ?_|refine Y2s ?_|refine Y2t ?_|refine Y2I hP rfl ?_|refine Y2J hP rfl ?_|(refine Y2W hP (by simp[h5,h8',q1W,q2H,hkd,hto,hel]<;>rfl) ?_;dsimp only[goK])|(refine Y2O hP q0g (eI) ?_ rfl rfl rfl rfl ?_;(focus(simp;done));refine Y2X hP (by simp[h5,h8',q1W,q2H,hkd,hto,hel]<;>rfl) ?_;dsimp only[goK])|simp only[q0a,q0c,q0d,↓reduceIte,Nat.reduceEqDiff,reduceCtorEq]|(refine Y2u ⟨.inr rfl,_,_,rfl,rfl,?_⟩;dsimp only[q0q])
                all_goals (rw[hR12,hen];simp[hto,hel,hst,hi,ht0])
      · rw[Y2G (show(-1:Int)=t by omega)]at eC
        refine zR2f (zc @h5 (zc @hlu @hkd)) q1L eE q0P eO ?_
        refine zEf (zc @h5 (zc @hlu (zc @hkd (zc @q0t @q0u)))) (tl 86 [.isl [[.int .i64 t]],.int .i64 (-1)] (.bool true) (eC) t0) ?_
        repeat' first|refine Y2v ?_|refine Y2x ?_|refine Y2t ?_|refine Y2I hP rfl ?_|(refine Y2W hP (by simp[h5,h8',q1W,q2H,hkd]<;>rfl) ?_;dsimp only[goK])|simp only[q0a,q0c,q0d,↓reduceIte,Nat.reduceEqDiff,reduceCtorEq]|(refine Y2u ⟨.inr rfl,_,_,rfl,rfl,?_⟩;dsimp only[q0q])
        all_goals (rw[hR12,hen];simp[ht0])
    · have hE:q3h y.ed= [y.ed.a]:=by simp[q3h,hkd]
      have hua:∀r∈(Sl.mk [y.ed.a]).list,0≤r∧r<q2Y p x:=fun r hr=>by
        have:r=y.ed.a:=by simpa [Sl.list]using hr
        rw[this]
        exact x8m H.fn hy (by rw[hE];simp)
      have eO:PureC Tryz.prog F q5P [fnV p f ks ps (rulL nx x.blocks.list.length),.isl [[.int .i64 y.ed.a]]] (.isl [[.int .i64 (q0K p x y.ed.a)]]):=z3K (p:=p) (f:=f) (ks:=ks) (ps:=ps) (rl:=rulL nx x.blocks.list.length) hP H.ok H.sg (.mk [y.ed.a]) hua (by simp[Sl.list])
      have eC:PureC Tryz.prog F q1A [.isl [[.int .i64 (q0K p x y.ed.a)]],.int .i64 (-1)] (.bool (decide (-1=q0K p x y.ed.a)||false)):=q4r hP (.mk [q0K p x y.ed.a]) (-1) (by simp[Sl.list])
      have eS:PureC Tryz.prog F q0y [fnV p f ks ps (rulL nx x.blocks.list.length),.int .i64 b,.int .i64 y.ins.list.length,.isl [[.int .i64 y.ed.a]]] (.bool (q3g p x y.ed.a b y.ins.list.length&&true)):=z3v (at_:=(y.ins.list.length:Int)) hP H hb (.mk [y.ed.a]) hua (by simp[Sl.list])
      rw[Bool.and_true]at eS
      rw[Bool.or_false]at eC
      have tge:=z3B H.fn y.ed.a
      have tlt:=z0E H.fn y.ed.a
      rw[hE]at eE
      have eE:PureC Tryz.prog F q6T [.agg y.ed.cells] (.isl [[.int .i64 y.ed.a]]):=eE
      simp only[LEnd.cells,hkd]at eE
      have hen:z3p p x b y=(decide (0≤q0K p x y.ed.a)&&(q3g p x y.ed.a b y.ins.list.length&&decide (q0K p x y.ed.a=q1V p.types.list x.sig))):=by
        unfold z3p
        rw[hE,Y0c (by omega),Y0e hkd]
        simp[q3H,q1O,to9,hkd,in27]
      generalize q0K p x y.ed.a=t at*
      obtain⟨sg0,sg1⟩:=H.fn.sig
      obtain⟨sg,hsg⟩:=Y3j sg0
      obtain⟨tz,htz⟩:=q0b (show sg<p.types.list.length by omega)
      have hsl:=Y2G (show sg<p.types.list.length by omega)
      have htv:=q0j (e:=LType.cells) (show 0<p.types.list.length by omega)
      have hea:q1V p.types.list x.sig=tz.elem:=by simp[q1V,hsg,htz]
      rw[hea]at hen
      by_cases ht0:0≤t
      · rw [Y2F (show¬((-1:Int)=t) by omega)]at eC
        cases hst:q3g p x y.ed.a b y.ins.list.length with
        | false=>
          rw[hst]at eS
          refine zR2f (zc @h5 (zc @hlu @hkd)) q1L eE q0P eO ?_
          refine zEf (zc @h5 (zc @hlu (zc @hkd (zc @q0t (zc @q0u (zc @q2n (zc @q2o (zc @q0I @q0J)))))))) (tl 86 [.isl [[.int .i64 t]],.int .i64 (-1)] (.bool false) (eC) (tl 75 [.agg [.int .u8 3,.int .i64 y.ed.a,.int .i64 y.ed.to,.int .i64 y.ed.els]] (.isl [[.int .i64 y.ed.a]]) (eE) (tl 137 [fnV p f ks ps (rulL nx x.blocks.list.length),.int .i64 b,.int .i64 y.ins.list.length,.isl [[.int .i64 y.ed.a]]] (.bool false) (eS) t0))) ?_
          repeat' first|refine Y2v ?_|refine Y2x ?_|refine Y2s ?_|refine Y2t ?_|refine Y2I hP rfl ?_|refine Y2J hP rfl ?_|(refine Y2W hP (by simp[h5,h8',q1W,q2H,hkd]<;>rfl) ?_;dsimp only[goK])
          refine zE t0 ?_
          repeat' first|refine Y2v ?_|refine Y2t ?_|refine Y2I hP rfl ?_|(refine Y2W hP (by simp[h5,h8',q1W,q2H,hkd]<;>rfl) ?_;dsimp only[goK])|simp only[q0a,q0c,q0d,↓reduceIte,Nat.reduceEqDiff,reduceCtorEq]|(refine Y2u ⟨.inr rfl,_,_,rfl,rfl,?_⟩;dsimp only[q0q])
          all_goals (rw[hR12,hen];simp[hst])
        | true=>
          rw[hst]at eS
          by_cases hte:t=tz.elem
          · refine zR2f (zc @h5 (zc @hlu @hkd)) q1L eE q0P eO ?_
            refine zEf (zc @h5 (zc @hlu (zc @hkd (zc @q0t (zc @q0u (zc @q2n (zc @q2o (zc @q0I @q0J)))))))) (tl 86 [.isl [[.int .i64 t]],.int .i64 (-1)] (.bool false) (eC) (tl 75 [.agg [.int .u8 3,.int .i64 y.ed.a,.int .i64 y.ed.to,.int .i64 y.ed.els]] (.isl [[.int .i64 y.ed.a]]) (eE) (tl 137 [fnV p f ks ps (rulL nx x.blocks.list.length),.int .i64 b,.int .i64 y.ins.list.length,.isl [[.int .i64 y.ed.a]]] (.bool true) (eS) t0))) ?_
            repeat' first|refine Y2v ?_|refine Y2x ?_|refine Y2s ?_|refine Y2t ?_|refine Y2I hP rfl ?_|refine Y2J hP rfl ?_|(refine Y2W hP (by simp[h5,h8',q1W,q2H,hkd]<;>rfl) ?_;dsimp only[goK])
            refine zEf (zc @hf (zc @hfl (zc @hfv (zc @hsg (zc @htz (zc @hsl (zc @htv (zc @hte @natZ)))))))) t0 ?_
            repeat' first|refine Y2v ?_|refine Y2s ?_|refine Y2t ?_|refine Y2J hP rfl ?_|(refine Y2W hP (by simp[h5,h8',q1W,q2H,hkd]<;>rfl) ?_;dsimp only[goK])|simp only[q0a,q0c,q0d,↓reduceIte,Nat.reduceEqDiff,reduceCtorEq]|(refine Y2u ⟨.inr rfl,_,_,rfl,rfl,?_⟩;dsimp only[q0q])
            all_goals (rw[hR12,hen];simp[hst,hte];try omega)
          · refine zR2f (zc @h5 (zc @hlu @hkd)) q1L eE q0P eO ?_
            refine zEf (zc @h5 (zc @hlu (zc @hkd (zc @q0t (zc @q0u (zc @q2n (zc @q2o (zc @q0I @q0J)))))))) (tl 86 [.isl [[.int .i64 t]],.int .i64 (-1)] (.bool false) (eC) (tl 75 [.agg [.int .u8 3,.int .i64 y.ed.a,.int .i64 y.ed.to,.int .i64 y.ed.els]] (.isl [[.int .i64 y.ed.a]]) (eE) (tl 137 [fnV p f ks ps (rulL nx x.blocks.list.length),.int .i64 b,.int .i64 y.ins.list.length,.isl [[.int .i64 y.ed.a]]] (.bool true) (eS) t0))) ?_
            repeat' first|refine Y2v ?_|refine Y2x ?_|refine Y2s ?_|refine Y2t ?_|refine Y2I hP rfl ?_|refine Y2J hP rfl ?_|(refine Y2W hP (by simp[h5,h8',q1W,q2H,hkd]<;>rfl) ?_;dsimp only[goK])
            refine zEf (zc @hf (zc @hfl (zc @hfv (zc @hsg (zc @htz (zc @hsl (zc @htv (zc @hte @natZ)))))))) t0 ?_
            repeat' first|refine Y2v ?_|refine Y2t ?_|refine Y2I hP rfl ?_|(refine Y2W hP (by simp[h5,h8',q1W,q2H,hkd]<;>rfl) ?_;dsimp only[goK])|simp only[q0a,q0c,q0d,↓reduceIte,Nat.reduceEqDiff,reduceCtorEq]|(refine Y2u ⟨.inr rfl,_,_,rfl,rfl,?_⟩;dsimp only[q0q])
            all_goals (rw[hR12,hen];simp[hte])
      · rw[Y2G (show(-1:Int)=t by omega)]at eC
        refine zR2f (zc @h5 (zc @hlu @hkd)) q1L eE q0P eO ?_
        refine zEf (zc @h5 (zc @hlu (zc @hkd (zc @q0t @q0u)))) (tl 86 [.isl [[.int .i64 t]],.int .i64 (-1)] (.bool true) (eC) t0) ?_
        repeat' first|refine Y2v ?_|refine Y2x ?_|refine Y2s ?_|refine Y2t ?_|refine Y2I hP rfl ?_|refine Y2J hP rfl ?_|(refine Y2W hP (by simp[h5,h8',q1W,q2H,hkd]<;>rfl) ?_;dsimp only[goK])
        refine zE t0 ?_
        repeat' first|refine Y2v ?_|refine Y2t ?_|refine Y2I hP rfl ?_|(refine Y2W hP (by simp[h5,h8',q1W,q2H,hkd]<;>rfl) ?_;dsimp only[goK])|simp only[q0a,q0c,q0d,↓reduceIte,Nat.reduceEqDiff,reduceCtorEq]|(refine Y2u ⟨.inr rfl,_,_,rfl,rfl,?_⟩;dsimp only[q0q])
        all_goals (rw[hR12,hen];simp[ht0])
end Go.Ax
set_option maxRecDepth 20000
noncomputable section
namespace Go.Ax
open Go.Proofs
attribute [local irreducible] TW TO CallsT PureC
variable{F:Nat→Option Obj}{gl:Nat→AV}{K:Knob}{S S':Nat→Prop}
variable{p:LProg}{f:Nat}{x:LFunc}
def x2K(p:LProg)(x:LFunc):Bool:=decide ((q1z p.types.list x.sig).length=0)&&isT p.types.list (q1V p.types.list x.sig) 1
def q8Z(p:LProg)(f:Nat)(x:LFunc):Bool:=decide ((q1d x.blocks.list x.blocks.list.length).length=x.blocks.list.length)&&(!decide (f=0)||x2K p x)
def q9s(p:LProg)(f:Nat)(x:LFunc):AV:=if q8Z p f x=true then(match (List.range x.blocks.list.length).find? fun b=> !q2m p x b with|some b=>q2T f b|none=>.nilif)else q2T f 0
theorem x5l:(q9s p f x= .nilif∧(q8Z p f x&&(List.range x.blocks.list.length).all fun b=>q2m p x b)=true)∨((∃b,q9s p f x=q2T f b)∧(q8Z p f x&&(List.range x.blocks.list.length).all fun b=>q2m p x b)=false):=by
  unfold q9s
  by_cases hs:q8Z p f x=true
  · rw[Y0e hs,hs]
    cases hf:(List.range x.blocks.list.length).find? fun b=> !q2m p x b with
    | none=>
      left
      refine⟨rfl,?_⟩
      rw[Y0g,Y0G]
      intro b hb
      have:=List.find?_eq_none.1 hf b hb
      simpa using this
    | some b=>
      right
      refine⟨⟨b,rfl⟩,?_⟩
      rw[Y0g,Y3E]
      refine⟨b,List.mem_of_find?_eq_some hf,?_⟩
      have:=List.find?_some hf
      simpa using this
  · right
    rw[Y0c hs]
    refine⟨⟨0,rfl⟩,?_⟩
    rw[Y3D.2 hs];rfl
theorem x3u{l:List LBlock}(hl0:0<l.length)(hto:∀b∈l,∀t∈to9 b.ed,0≤t∧t<l.length)(h:(q1d l l.length).length=l.length):∀b,b<l.length→b∈q0L l:=by
 obtain⟨par,t,O⟩:=ordered hl0 hto
 intro b hb
 rw[O.way b,←z3M hl0 hto]
 unfold q1d at h
 rw[Y1q]at h
 have h2:(List.range l.length).filter (fun i=>(z0l l (-1)).getD i false)=List.range l.length:=List.filter_sublist.eq_of_length (by rw[h,Y3H])
 have h3:=List.filter_eq_self.1 h2 b (Y2o.2 hb)
 exact h3
theorem x8l{ks:Sl Int}{ps:Sl (Int×Int)}{rl:List Int}(hfv:p.funcs.av LFunc.cells= .isl (p.funcs.list.map LFunc.cells)){k:Nat}{h:Hp}:frzV (k+1) h (.iptr [[p.types.av LType.cells,.isl (p.funcs.list.map LFunc.cells),.int .i64 f,ks.av cI,ps.av cP,(Sl.mk rl).av cI]] 0 0)=some (.iptr [[p.types.av LType.cells,.isl (p.funcs.list.map LFunc.cells),.int .i64 f,ks.av cI,ps.av cP,(Sl.mk rl).av cI]] 0 0):=by
 have:=q4a (p:=p) (f:=f) (ks:=ks) (ps:=ps) (rl:=rl) (k:=k) (h:=h)
 rw[hfv]at this
 exact this
set_option maxHeartbeats 4000000 in
theorem x1Z (hV :Env2 F gl K) (G:GateAt p f x) (h0:Hp):
    CallsT Tryz.prog F h0 (fun v g=>v=q9s p f x) q4V [.agg p.cells,.int .i64 f]:=by
  have hP:=hV.env.P
  have hX:=hV.env.X
  obtain⟨hs1,hs2,hs3⟩:=G.fn.small
  have hf:=G.fn.at_
  have hfl:=Y2G (Y0m.1 hf).1
  have hfv:=q0j (e:=LFunc.cells) (show 0<p.funcs.list.length by have:=(Y0m.1 hf).1;omega)
  obtain⟨sg0,sg1⟩:=G.fn.sig
  obtain⟨sg,hsg⟩:=Y3j sg0
  obtain⟨tz,htz⟩:=q0b (show sg<p.types.list.length by omega)
  have hsl:=Y2G (show sg<p.types.list.length by omega)
  have htv:=q0j (e:=LType.cells) (show 0<p.types.list.length by omega)
  have hea:q1V p.types.list x.sig=tz.elem:=by simp[q1V,hsg,htz]
  have hpa:q1z p.types.list x.sig=tz.parts.list:=by simp[q1z,hsg,htz]
  have eW:=z8Q hV.env G
  simp only[LProg.cells]at eW
  have eO:=x3m hV G
  simp only[LProg.cells]at eO
  refine Y2y hP q0f z5T rfl rfl ?_
  refine Y2U (fun g=>True) trivial fun g0 _=> ?_
  refine zR0 ?_
  refine Y3y hP x7v (eO _) (by simp) rfl rfl rfl rfl (fun v g hO=> ?_)
  obtain⟨hw,ks,ps,nx,rfl,hK⟩:=hO
  obtain⟨q,hq⟩:∃q,q=g0.nx:=⟨_,rfl⟩
  have hqn:q<g.nx:=by have:=hw.nx;rw[nx_new]at this;omega
  have hg:g.get q=some (.cells q0o [p.types.av LType.cells,p.funcs.av LFunc.cells]):=by rw[hw.get q (by rw[nx_new];omega),get_new,Y0e hq.symm]
  rw[←hq]
  have hgp:=hg
  dsimp only[q0o]at hg
  refine Y2X hP (by simp<;>rfl) ?_
  try dsimp only[goK]
  refine zA1f @hg z5E eW ?_
  refine zHf (zc @hg (zc @hf (zc @hfl (zc @hfv (zc @hsg (zc @htz (zc @hsl (zc @htv (show¬g.nx≤q by omega))))))))) t0 (zw [0,1,0,4,0,28,60,124,255,511,0,2047]) ?_
  refine Y2U (fun m=>m.get q=some (.cells q0o [p.types.av LType.cells,p.funcs.av LFunc.cells])∧m.get g.nx=some (.cells q6q tz.cells)∧g.nx<m.nx) ⟨by simp[show¬g.nx=q by omega];exact hgp,by simp,by simp⟩ fun m hm=> ?_
  obtain⟨hmp,hmt',hmn⟩:=hm
  have hmt:=hmt'
  dsimp only[q0o]at hmp
  dsimp only[q6q,LType.cells]at hmt
  have hlr:=fun h=>q3j (C:=Ctx.of Tryz.prog gl K) (t:=q0m) (h:=h) (q2c (e:=cI) (slL (q1d x.blocks.list x.blocks.list.length))) (q4B _)
  rw[q0l]at hlr
  have hlb:=fun h=>q3j (C:=Ctx.of Tryz.prog gl K) (t:=q6L) (h:=h) (q2c (e:=LBlock.cells) x.blocks) (q4B _)
  have hlp:=fun h=>q3j (C:=Ctx.of Tryz.prog gl K) (t:=q0m) (h:=h) (q2c (e:=cI) tz.parts) (q4B _)
  dsimp only[q0m]at hlr hlp
  dsimp only[q6L]at hlb
  have htr:=G.fn.ty.elem tz (Y0N htz)
  have hk3:tz.kind=3:=by have:=(q1X G.fn.ok).2.2.1;unfold q9u at this;rw[hsg]at this;simpa [htz]using this
  have eI:=q5J (p:=p) (f:=f) (ks:=ks) (ps:=ps) (rl:=rulL nx x.blocks.list.length) (kd:=1) hP hX (show-1≤tz.elem by omega) (show tz.elem<p.types.list.length by omega)
  have hfault:q2T f 0= .iface 134 (.agg [.int .i64 f,.int .i64 0,.int .i64 120]):=rfl
  simp only[fnV,hfv]at eI
  refine TW.less (l':=[(1,.int .i64 f),(2,.ptr q 0),(4,.nilif),(5,fnV p f ks ps (rulL nx x.blocks.list.length)),(6,(slL (q1d x.blocks.list x.blocks.list.length)).av cI),(8,.ptr g.nx 0)]) (by
    exact zLf (zc @htv @hfv)
    ) ?_
  have hnn:∀h,binV (Ctx.of Tryz.prog gl K) .neq 101 (.tmp 74) (.const .nilIface) .nilif .nilif h=some (.val (.bool false) h):=fun _=>rfl
  have hnf:∀v,q0B (Ctx.of Tryz.prog gl K) .neq 101 (.iface 134 v) .nilif=some (.bool true):=fun _=>rfl
  by_cases hre:(q1d x.blocks.list x.blocks.list.length).length=x.blocks.list.length
  · have hre' : decide (((q1d x.blocks.list x.blocks.list.length).length:Int)=x.blocks.list.length)=true:=Y2G (by omega)
    have L:Look p f x ks ps nx:=⟨G.fn,hK,x3u (by omega) (q4d G.fn.ok) hre,by rw[hpa];simp[q0w,hsg,htz]⟩
    have hmain:x2K p x=(decide (tz.parts.list.length=0)&&isT p.types.list tz.elem 1):=by unfold x2K;rw[hpa,hea]
    by_cases hf0:f=0
    · have hf0d :decide (f=0)=true:=Y2G hf0
      by_cases hpl:tz.parts.list.length=0
      · have hpl':decide (0<tz.parts.list.length)=false:=Y2F (by omega)
        cases hi:isT p.types.list tz.elem 1 with
        | false=>
          have hv:q9s p f x=q2T f 0:=by
            unfold q9s q8Z
            rw[hmain,hi,Y2G hf0]
            simp
          rw[hi]at eI
          rw[hv,hfault]
          repeat' first|refine zA0f (zc @hmp (zc @hmt (zc @hf (zc @hfl (zc @hfv (zc @hlr (zc @hlb (zc @hlp (zc @hre' (zc @hf0d (zc @hpl' (zc (show¬m.nx=q by omega) (show¬m.nx=g.nx by omega))))))))))))) ?_|refine zR0f (zc @hmp (zc @hmt (zc @hf (zc @hfl (zc @hfv (zc @hlr (zc @hlb (zc @hlp (zc @hre' (zc @hf0d (zc @hpl' (zc (show¬m.nx=q by omega) (show¬m.nx=g.nx by omega))))))))))))) ?_|(refine Y3b hP q0g (eI) ?_ rfl rfl rfl (by simp<;>rfl) ?_ rfl ?_;(focus(simp;done));(focus(repeat' first|exact Y2Y|apply Y3a|refine Y3T (by simp[hmp,hmt,hf,hfl,hfv,hlr,hlb,hlp,hre',hf0d,hpl',(show¬m.nx=q by omega),(show¬m.nx=g.nx by omega)]<;>rfl) ?_|refine Y2Z (x8l (by assumption)) ?_);done);refine Y2X hP (by simp[hmp,hmt,hf,hfl,hfv,hlr,hlb,hlp,hre',hf0d,hpl',(show¬m.nx=q by omega),(show¬m.nx=g.nx by omega)]<;>rfl) ?_;dsimp only[goK])|(refine Y2u ⟨.inr rfl,_,_,rfl,rfl,?_⟩;dsimp only[q0q])
        | true =>
          rw[hi]at eI
          have hstart:q8Z p f x=true:=by
            unfold q8Z
            rw[hmain,Y2G hre]
            rw[Y2G hpl,hi];simp
          repeat' first|refine zR0f (zc @hmp (zc @hmt (zc @hf (zc @hfl (zc @hfv (zc @hlr (zc @hlb (zc @hlp (zc @hre' (zc @hf0d (zc @hpl' (zc (show¬m.nx=q by omega) (show¬m.nx=g.nx by omega))))))))))))) ?_|(refine Y3b hP q0g (eI) ?_ rfl rfl rfl (by simp<;>rfl) ?_ rfl ?_;(focus(simp;done));(focus(repeat' first|exact Y2Y|apply Y3a|refine Y3T (by simp[hmp,hmt,hf,hfl,hfv,hlr,hlb,hlp,hre',hf0d,hpl',(show¬m.nx=q by omega),(show¬m.nx=g.nx by omega)]<;>rfl) ?_|refine Y2Z (x8l (by assumption)) ?_);done);refine Y2X hP (by simp[hmp,hmt,hf,hfl,hfv,hlr,hlb,hlp,hre',hf0d,hpl',(show¬m.nx=q by omega),(show¬m.nx=g.nx by omega)]<;>rfl) ?_;dsimp only[goK])
          have hmi:∀r,(r=q∨r=g.nx)→True:=fun _ _=>trivial
          refine Y2H (fun i:Nat=>[(1,.int .i64 f),(2,.ptr q 0),(5,fnV p f ks ps (rulL nx x.blocks.list.length)),(67,.int .i64 x.blocks.list.length),(68,.int .i64 i)]) (fun i m=>i≤x.blocks.list.length∧(∀t,t<i→q2m p x t=true)) (fun i=>x.blocks.list.length-i) (0) ?_ ?_ ?_
          focus(repeat' first|exact q0h|refine q0e (by simp[hfv]) ?_)
          ·exact⟨Y0E _,fun t ht=>absurd ht (Y2K t)⟩
          rintro i m2 ⟨hi,hall⟩
          refine zR0 ?_
          refine Y2w hP rfl (fun hc=>Y2s ?_) (fun hc=>Y2t ?_)
          · simp at hc
            have eB:=z8O hV L G hc
            cases hbk:q2m p x i with
            | true=>
              rw[hbk,Y0e rfl]at eB
              dsimp only[q0a]
              refine zA1f (zc @hnn @hnf) q4Y eB ?_
              refine⟨i+1,by omega,trivial,?_,by omega,fun t ht=>by
                by_cases e:t=i
                ·rw[e];exact hbk
                ·exact hall t (by omega)⟩
              exact zLf (w64s (show i<9000000000000000000 by omega))
            | false=>
              rw[hbk,Y0c (by simp)]at eB
              have hv:q9s p f x=q2T f i:=by
                have hfd:((List.range x.blocks.list.length).find? fun b=> !q2m p x b)=some i:=List.find?_range_eq_some.2 ⟨by rw[hbk];rfl,Y2o.2 hc,fun j hj=>by rw[hall j hj];rfl⟩
                unfold q9s
                rw[Y0e hstart,hfd]
              rw[hv]
              have hfi:q2T f i= .iface 134 (.agg [.int .i64 f,.int .i64 i,.int .i64 120]):=rfl
              rw[hfi]at eB⊢
              dsimp only[q0a]
              repeat' first|refine zR1f (zc @hnn @hnf) q4Y eB ?_|(refine Y2u ⟨.inr rfl,_,_,rfl,rfl,?_⟩;dsimp only[q0q])
          · simp at hc
            obtain rfl:i=x.blocks.list.length:=by omega
            dsimp only[q0a]
            have hv:q9s p f x= .nilif:=by
              have hfd:((List.range x.blocks.list.length).find? fun b=> !q2m p x b)=none:=List.find?_range_eq_none.2 fun j hj=>by rw[hall j hj];rfl
              unfold q9s
              rw[Y0e hstart,hfd]
            rw[hv]
            repeat' first|refine zR0 ?_|(refine Y2u ⟨.inr rfl,_,_,rfl,rfl,?_⟩;dsimp only[q0q])
      · have hpl':decide (0<tz.parts.list.length)=true:=Y2G (by omega)
        have hv:q9s p f x=q2T f 0:=by
          unfold q9s q8Z
          rw[hmain,Y2F hpl,Y2G hf0]
          simp
        rw[hv,hfault]
        repeat' first|refine zR0f (zc @hmp (zc @hmt (zc @hf (zc @hfl (zc @hfv (zc @hlr (zc @hlb (zc @hlp (zc @hre' (zc @hf0d @hpl')))))))))) ?_|(refine Y2u ⟨.inr rfl,_,_,rfl,rfl,?_⟩;dsimp only[q0q])
    · have hf0d:decide (f=0)=false:=Y2F hf0
      have hstart:q8Z p f x=true:=by
        unfold q8Z
        rw[hmain,Y2G hre]
        simp[hf0]
      refine zR0f (zc @hmp (zc @hmt (zc @hf (zc @hfl (zc @hfv (zc @hlr (zc @hlb (zc @hlp (zc @hre' @hf0d))))))))) ?_
      have hmi:∀r,(r=q∨r=g.nx)→True:=fun _ _=>trivial
      refine Y2H (fun i:Nat=>[(1,.int .i64 f),(2,.ptr q 0),(5,fnV p f ks ps (rulL nx x.blocks.list.length)),(67,.int .i64 x.blocks.list.length),(68,.int .i64 i)]) (fun i m=>i≤x.blocks.list.length∧(∀t,t<i→q2m p x t=true)) (fun i=>x.blocks.list.length-i) (0) ?_ ?_ ?_
      focus(repeat' first|exact q0h|refine q0e (by simp[hfv]) ?_)
      ·exact⟨Y0E _,fun t ht=>absurd ht (Y2K t)⟩
      rintro i m2 ⟨hi,hall⟩
      refine zR0 ?_
      refine Y2w hP rfl (fun hc=>Y2s ?_) (fun hc=>Y2t ?_)
      · simp at hc
        have eB:=z8O hV L G hc
        cases hbk:q2m p x i with
        | true=>
          rw[hbk,Y0e rfl]at eB
          dsimp only[q0a]
          refine zA1f (zc @hnn @hnf) q4Y eB ?_
          refine⟨i+1,by omega,trivial,?_,by omega,fun t ht=>by
            by_cases e:t=i
            ·rw[e];exact hbk
            ·exact hall t (by omega)⟩
          exact zLf (w64s (show i<9000000000000000000 by omega))
        | false=>
          rw[hbk,Y0c (by simp)]at eB
          have hv:q9s p f x=q2T f i:=by
            have hfd:((List.range x.blocks.list.length).find? fun b=> !q2m p x b)=some i:=List.find?_range_eq_some.2 ⟨by rw[hbk];rfl,Y2o.2 hc,fun j hj=>by rw[hall j hj];rfl⟩
            unfold q9s
            rw[Y0e hstart,hfd]
          rw[hv]
          have hfi:q2T f i= .iface 134 (.agg [.int .i64 f,.int .i64 i,.int .i64 120]):=rfl
          rw[hfi]at eB⊢
          dsimp only[q0a]
          repeat' first|refine zR1f (zc @hnn @hnf) q4Y eB ?_|(refine Y2u ⟨.inr rfl,_,_,rfl,rfl,?_⟩;dsimp only[q0q])
      · simp at hc
        obtain rfl:i=x.blocks.list.length:=by omega
        dsimp only[q0a]
        have hv:q9s p f x= .nilif:=by
          have hfd:((List.range x.blocks.list.length).find? fun b=> !q2m p x b)=none:=List.find?_range_eq_none.2 fun j hj=>by rw[hall j hj];rfl
          unfold q9s
          rw[Y0e hstart,hfd]
        rw[hv]
        repeat' first|refine zR0 ?_|(refine Y2u ⟨.inr rfl,_,_,rfl,rfl,?_⟩;dsimp only[q0q])
  · have hre':decide (((q1d x.blocks.list x.blocks.list.length).length:Int)=x.blocks.list.length)=false:=Y2F (by omega)
    have hv:q9s p f x=q2T f 0:=by
      unfold q9s q8Z
      rw[Y2F hre]
      rfl
    rw[hv,hfault]
    repeat' first|refine zR0f (zc @hmp (zc @hmt (zc @hf (zc @hfl (zc @hfv (zc @hlr (zc @hlb (zc @hlp @hre')))))))) ?_|(refine Y2u ⟨.inr rfl,_,_,rfl,rfl,?_⟩;dsimp only[q0q])
end Go.Ax
set_option maxRecDepth 20000
noncomputable section
namespace Go.Ax
open Go.Proofs
attribute [local irreducible] TW TO CallsT PureC
variable{F:Nat→Option Obj}{gl:Nat→AV}{K:Knob}{S S':Nat→Prop}{n:Nat}{rd:Option Nat}{l:Kn}{h:Hp}{ds:List ADef}{Q:PQ}{all rest:List Oper}
theorem OpT.says{P:Program}{o:Oper}{x:Operand}{u v:AV}(hP:POk P F gl K)(hnd:∀c,o.op≠ .defer c)(hx:evK (Ctx.of P gl K) l x=some u)(H:∀(m:Loc) (a:Act) (w:World),VRel P F m u (a.eval x)→∃cv,(execOp a.eval o).run P w= .ok (.value cv) w∧VRel P F m v cv):
  OpT P F o n rd l h ds (fun v' g=>g=h∧v'=v):=by
 refine⟨hnd,fun s hs m a w hr htm hF=> ?_⟩
 have h1:=q0F hP htm x
 rw[hs.ev hx]at h1
 obtain⟨cv,h2,h3⟩:=H m a w h1
 exact .inl ⟨v,h,⟨rfl,rfl⟩,.refl h,.inl ⟨.value cv,cv,w,m,h2,.inl rfl,Y0t hr rfl (Y0r w),h3⟩⟩
theorem OpT.invokes{P:Program}{r:Operand}{name:String}{ts:Array TypeId}{dd:Option Nat}{ty:TypeId}{pos:String}{aft:Array Edge}{gd:Option (Nat×Bool)}{t:TypeId}{x:AV}{f:FuncId}{O:AV→Hp→Prop}(hP:POk P F gl K)(hx:evK (Ctx.of P gl K) l r=some (.iface t x))
  (hm:∀(cv:Value) (w:World),(callMethod (.iface t cv) name #[]).run P w= .ok (.enter f #[cv]) w) (hc:CallsT P F h O f [x]):OpT P F ⟨dd,.call {callee:=.invoke r name,args:= #[],argTypes:=ts},ty,pos,aft,gd⟩ n rd l h ds O:=by
 refine⟨nofun,fun s hs m a w hr htm hF=> ?_⟩
 have h1:=q0F hP htm r
 rw[hs.ev hx]at h1
 have key:∀c,VRel P F m (.iface t x) c→∃cv,c= .iface t cv∧VRel P F m x cv:=fun c hc=>by cases hc with|iface _ hv=>exact⟨_,rfl,hv⟩
 obtain⟨cv,e,hv⟩:=key _ h1
 have hrun:(execOp a.eval ⟨dd,.call {callee:=.invoke r name,args:= #[],argTypes:=ts},ty,pos,aft,gd⟩).run P w= .ok (.enter f #[cv]) w:=by
  show(do let d←resolve a.eval {callee:=.invoke r name,args:= #[],argTypes:=ts} ty;invoke d.target d.args:Sem Next).run P w=_
  rw[Sem.run_bind,show(resolve a.eval {callee:=.invoke r name,args:= #[],argTypes:=ts} ty).run P w= .ok {target:=.fn (.method name) #[],args:= #[a.eval r]} w by simp[resolve]]
  show(invoke (.fn (.method name) #[]) #[a.eval r]).run P w=_
  rw[e]
  have e3:(invoke (.fn (.method name) #[]) #[.iface t cv]).run P w=(callMethod (.iface t cv) name #[]).run P w:=by simp[invoke]
  rw[e3]
  exact hm cv w
 unfold CallsT at hc
 exact .inr ⟨f, #[cv],hrun,fun N=>hc m w N #[cv] hr (LRel.cons hv LRel.nil) hF⟩
def q2l:AV:=.iface 29 (.int .i64 120)
theorem x8R(hP:POk Tryz.prog F gl K){pos:String}{aft:Array Edge}{gd:Option (Nat×Bool)}{ty d:Nat}{x:Operand}{ts:Array TypeId}(hx:evK (Ctx.of Tryz.prog gl K) l x=some q2l):
  OpT Tryz.prog F ⟨some d,.call {callee:=.value (.func 94),args:= #[x],argTypes:=ts},ty,pos,aft,gd⟩ n rd l h ds (fun v' g=>g=h∧v'= .iface 186 (.agg [.typ 29])):=by
 refine OpT.says hP nofun hx fun m a w hv=> ?_
 have key:∀c,VRel Tryz.prog F m q2l c→c= .iface 29 (.int .i64 120):=fun c hc=>by cases hc with|iface _ hv=>cases hv;rfl
 have e:=key _ hv
 refine⟨.iface 186 (.agg #[.pointer (some ⟨Tryz.prog.globals.size,29,none⟩)]),?_,.iface _ (.agg rfl fun i x y hx hy=> ?_)⟩
 ·show(do let d←resolve a.eval {callee:=.value (.func 94),args:= #[x],argTypes:=ts} ty;invoke d.target d.args:Sem Next).run Tryz.prog w=_
  rw[Sem.run_bind,show(resolve a.eval {callee:=.value (.func 94),args:= #[x],argTypes:=ts} ty).run Tryz.prog w= .ok {target:=.fn (.func 94) #[],args:= #[a.eval x]} w by simp[resolve,Deferred.ofValue,Act.eval]]
  show(invoke (.fn (.func 94) #[]) #[a.eval x]).run Tryz.prog w=_
  rw[e]
  kernel_rfl
 ·match i,hx,hy with
  |0,hx,hy=>cases hx;cases hy;exact .typ 29
theorem z9Y(hP:POk Tryz.prog F gl K){pos:String}{aft:Array Edge}{gd:Option (Nat×Bool)}{ty d:Nat}{x:Operand}{ts:Array TypeId}(hx:evK (Ctx.of Tryz.prog gl K) l x=some (.iface 186 (.agg [.typ 29]))):
    OpT Tryz.prog F ⟨some d,.call {callee:=.invoke x "Comparable",args:= #[],argTypes:=ts},ty,pos,aft,gd⟩ n rd l h ds (fun v' g=>g=h∧v'= .bool true):=by
  refine OpT.says hP nofun hx fun m a w hv=> ?_
  have key:∀c,VRel Tryz.prog F m (.iface 186 (.agg [.typ 29])) c→c= .iface 186 (.agg #[.pointer (some ⟨Tryz.prog.globals.size,29,none⟩)]):=fun c hc=>by
    cases hc with
    | iface _ hv=>
      obtain⟨a,rfl,ha⟩:=Y0q hv
      obtain⟨y,k,e,h1,h2⟩:=ha.cases_cons
      cases h1
      have h3:=h2.cases_nil
      rw[h3]at e
      have:a= #[.pointer (some ⟨Tryz.prog.globals.size,29,none⟩)]:=by
        apply Array.toList_inj.1;exact e
      rw[this]
  have e:=key _ hv
  refine⟨.bool true,?_,.bool true⟩
  show(do let d←resolve a.eval {callee:=.invoke x "Comparable",args:= #[],argTypes:=ts} ty;invoke d.target d.args:Sem Next).run Tryz.prog w=_
  rw[Sem.run_bind,show(resolve a.eval {callee:=.invoke x "Comparable",args:= #[],argTypes:=ts} ty).run Tryz.prog w= .ok {target:=.fn (.method "Comparable") #[],args:= #[a.eval x]} w by simp[resolve]]
  show(invoke (.fn (.method "Comparable") #[]) #[a.eval x]).run Tryz.prog w=_
  rw[e]
  kernel_rfl
theorem z9I(cv:Value)(w:World):(callMethod (.iface 134 cv) "Unwrap" #[]).run Tryz.prog w= .ok (.enter 233 #[cv]) w:=by kernel_rfl
end Go.Ax
set_option maxRecDepth 20000
noncomputable section
namespace Go.Ax
open Go.Proofs
attribute [local irreducible] TW TO CallsT PureC
variable{F:Nat→Option Obj}{gl:Nat→AV}{K:Knob}{S S':Nat→Prop}
abbrev q9H:FuncId:=49
theorem z7A:Tryz.prog.funcs[q9H]? =some Tryz.f49:=Tryz.func49
theorem z7y:IsFn Tryz.prog q9H:=⟨_,_,Tryz.func49,rfl⟩
abbrev z2O:FuncId:=95
theorem x4F:Tryz.prog.funcs[z2O]? =some Tryz.f95:=Tryz.func95
theorem x4t:IsFn Tryz.prog z2O:=⟨_,_,Tryz.func95,rfl⟩
theorem x2k{P:Program}{C:Ctx}{ih:Code→St→Res}{st:St}{dd:Option Nat}{x:Operand}{u t:TypeId}{ok:Bool}{ty:TypeId}{pos:String}{aft:Array Edge}{gd:Option (Nat×Bool)}:
  opA P C ih st ⟨dd,.typeAssert x u t ok,ty,pos,aft,gd⟩=(q4c P C (st.ev C x) t ok).map fun v=>.val v st.h:=by
 show ov _ (q4c P C (st.ev C x) t ok)=_
 cases q4c P C (st.ev C x) t ok<;>rfl
attribute [simp] x2k
theorem x4o(hP:POk Tryz.prog F gl K)(f b:Nat):PureC Tryz.prog F q7t [.agg (q2H f b)] q2l:=by
 refine Y2z (O:=fun u _=>u=q2l) (k:=3) rfl ?_ (fun u g e=>by subst e;rfl)
 refine Y2y hP q0f z1Q rfl rfl ?_
 repeat' first|refine Y2v ?_|(refine Y2W hP (by simp[q2H]<;>rfl) ?_;dsimp only[goK])|simp only[q0a,q0c,q0d,↓reduceIte,Nat.reduceEqDiff,reduceCtorEq]|(refine Y2u ⟨.inr rfl,_,_,rfl,rfl,?_⟩;dsimp only[q0q])
 rfl
def isX(f b q:Nat):AV:=if q=0 then q2T f b else q2l
theorem z9X(hP:POk Tryz.prog F gl K)(f b:Nat):PureC Tryz.prog F z2O [q2T f b,q2l,.bool true] (.bool true):=by
 refine Y2z (O:=fun u _=>u= .bool true) (k:=1) rfl ?_ (fun u g e=>by subst e;rfl)
 refine Y2y hP q0f x4F rfl rfl ?_
 have q1:q0B (Ctx.of Tryz.prog gl K) .eql 101 (q2T f b) q2l=some (.bool false):=rfl
 have q2:q0B (Ctx.of Tryz.prog gl K) .eql 101 q2l q2l=some (.bool true):=rfl
 have q3:q0B (Ctx.of Tryz.prog gl K) .eql 101 q2l .nilif=some (.bool false):=rfl
 have q4:q4c Tryz.prog (Ctx.of Tryz.prog gl K) (q2T f b) 188 true=some (.tup [.nilif,.bool false]):=by kernel_rfl
 have q5:q4c Tryz.prog (Ctx.of Tryz.prog gl K) (q2T f b) 191 true=some (.tup [q2T f b,.bool true]):=by kernel_rfl
 dsimp only[q2T,q2l]at q1 q2 q3 q4 q5
 refine zR0 ?_
 refine Y2H (fun q:Nat=>[(0,isX f b q),(1,q2l),(2,.bool true)]) (fun q g=>q≤1) (fun q=>1-q) (0) ?_ ?_ ?_
 focus(repeat' first|exact q0h|refine q0e (by simp[isX]) ?_)
 ·omega
 rintro q g hq
 obtain rfl|rfl:q=0∨q=1:=by omega
 ·simp only[isX,Y0e]
  dsimp only[q2T,q2l]
  refine zA0f (zc @q1 (zc @q4 @q5)) ?_
  refine TO.step (d:=36) rfl rfl rfl (OpT.invokes hP rfl z9I (CallsT.of_pure (x4o hP f b))) fun v' h' hvh=> ?_
  obtain⟨rfl,rfl⟩:=hvh
  dsimp only[q2l]
  refine Y2X hP (by simp<;>rfl) ?_
  dsimp only[goK]
  refine zA0f @q3 ?_
  refine⟨1,by omega,trivial,?_,by omega⟩
  simp only[isX,show¬(1=0) by decide,Y1m]
  try dsimp only[q2l]
  exact zL
 ·simp only[isX,show¬(1=0) by decide,Y1m]
  dsimp only[q2T,q2l]
  repeat' first|refine zR0f @q2 ?_|(refine Y2u ⟨.inr rfl,_,_,rfl,rfl,?_⟩;dsimp only[q0q])
theorem z7X(hP:POk Tryz.prog F gl K)(f b:Nat):PureC Tryz.prog F q9H [q2T f b,q2l] (.bool true):=by
 refine Y2z (O:=fun u _=>u= .bool true) (k:=1) rfl ?_ (fun u g e=>by subst e;rfl)
 refine Y2y hP q0f z7A rfl rfl ?_
 have q1:q0B (Ctx.of Tryz.prog gl K) .eql 101 (q2T f b) .nilif=some (.bool false):=rfl
 have q3:q0B (Ctx.of Tryz.prog gl K) .eql 101 q2l .nilif=some (.bool false):=rfl
 have e1:=z9X hP f b
 dsimp only[q2T,q2l]at q1 q3 e1⊢
 refine zA0f (zc @q1 @q3) ?_
 refine TO.step (d:=16) rfl rfl rfl (x8R hP rfl) fun v' h' hvh=> ?_
 obtain⟨rfl,rfl⟩:=hvh
 refine TO.step (d:=17) rfl rfl rfl (z9Y hP rfl) fun v' h' hvh=> ?_
 obtain⟨rfl,rfl⟩:=hvh
 refine Y2X hP (by simp<;>rfl) ?_
 dsimp only[goK]
 repeat' first|refine zR1 x4t e1 ?_|(refine Y2u ⟨.inr rfl,_,_,rfl,rfl,?_⟩;dsimp only[q0q])
theorem x2b(hP:POk Tryz.prog F gl K):PureC Tryz.prog F q9H [.nilif,q2l] (.bool false):=by
 refine Y2z (O:=fun u _=>u= .bool false) (k:=1) rfl ?_ (fun u g e=>by subst e;rfl)
 refine Y2y hP q0f z7A rfl rfl ?_
 have q0:∀h,binV (Ctx.of Tryz.prog gl K) .eql 101 (.tmp 6) (.const .nilIface) .nilif .nilif h=some (.val (.bool true) h):=fun _=>rfl
 have q1:q0B (Ctx.of Tryz.prog gl K) .eql 101 .nilif q2l=some (.bool false):=rfl
 dsimp only[q2l]at q1⊢
 repeat' first|refine zR0f (zc @q0 @q1) ?_|(refine Y2u ⟨.inr rfl,_,_,rfl,rfl,?_⟩;dsimp only[q0q])
end Go.Ax
set_option maxRecDepth 20000
noncomputable section
namespace Go.Ax
open Go.Proofs
attribute [local irreducible] TW TO CallsT PureC
variable{F:Nat→Option Obj}{gl:Nat→AV}{K:Knob}{S S':Nat→Prop}
def okF(p:LProg)(f:Nat)(x:LFunc):Bool:=q8Z p f x&&(List.range x.blocks.list.length).all fun b=>q2m p x b
theorem z9p{p:LProg}{f:Nat}{x:LFunc}:okF p f x=(q9Z p x&&(!decide (f=0)||x2K p x)):=by
 unfold okF q8Z q9Z
 cases decide ((q1d x.blocks.list x.blocks.list.length).length=x.blocks.list.length)<;>cases (!decide (f=0)||x2K p x)<;>simp
theorem x8i{p:LProg}{x:LFunc}(h:p.funcs.list[0]? =some x):z8q p=x2K p x:=by
 unfold z8q x2K
 have:z2q p 0=x.sig:=by simp[z2q,h]
 rw[this]
 congr 1
 exact Y3U.2 (by omega)
theorem x6X{p:LProg}(h6:q2I p=0)(h1:1≤p.funcs.list.length)(h:∀f x,p.funcs.list[f]? =some x→okF p f x=true):q2d p=0:=by
 obtain⟨x0,hx0⟩:=q0b (show 0<p.funcs.list.length by omega)
 have ha:p.funcs.list.all (q9Z p)=true:=Y0G.2 fun x hx=>by
  obtain⟨f,hf⟩:=Y3R hx
  have:=h f x hf
  rw[z9p,Y1X]at this
  exact this.1
 have hm:z8q p=true:=by
  have:=h 0 x0 hx0
  rw[z9p,Y1X]at this
  rw[x8i hx0]
  simpa using this.2
 unfold q2d
 rw[Y0e h6,Y0e ha,Y0e hm]
theorem x3X{p:LProg}(h6:q2I p=0){f:Nat}{x:LFunc}(hf:p.funcs.list[f]? =some x)(h:okF p f x=false):q2d p=120:=by
 unfold q2d
 rw[Y0e h6]
 by_cases ha:p.funcs.list.all (q9Z p)=true
 ·rw[Y0e ha]
  have hx:=Y0G.1 ha x (Y0N hf)
  rw[z9p,hx,Y0g]at h
  have h0:f=0:=by
   by_cases h0:f=0
   ·exact h0
   ·rw[Y2F h0]at h;cases h
  subst h0
  have:z8q p=false:=by rw[x8i hf];simpa using h
  rw[this];rfl
 ·rw[Y0c ha]
theorem x1G(hV:Env2 F gl K){p:LProg}{f:Nat}{x:LFunc}(G:GateAt p f x):PureC Tryz.prog F q4V [.agg p.cells,.int .i64 f] (q9s p f x):=
 Y2z (k:=3) (by simp) (x1Z hV G _) fun u g e=>by
  rcases x5l (p:=p) (f:=f) (x:=x)with⟨h,_⟩|⟨⟨b,h⟩,_⟩<;>rw[e,h]<;>rfl
set_option maxHeartbeats 2000000 in
theorem z5L(hV:Env2 F gl K)(p:LProg)(hs:SmallP p)(ho:OpsP p):PureC Tryz.prog F q9P [.agg p.cells] (.int .i64 (q2d p)):=by
 have hP:=hV.env.P
 have hX:=hV.env.X
 have eS:=z0b hV.env p hs ho
 simp only[LProg.cells]at eS
 refine Y2z (O:=fun u _=>u= .int .i64 (q2d p)) (k:=1) (by simp) ?_ (fun u g e=>by subst e;rfl)
 refine Y2y hP q0f x0o rfl rfl ?_
 by_cases h6:q2I p=0
 ·rw [h6]at eS
  have h1:1≤p.funcs.list.length:=(q3k h6).2.2.1
  have hnf:=hs.nf
  have hlf:=fun h=>q3j (C:=Ctx.of Tryz.prog gl K) (t:=q9w) (h:=h) (q2c (e:=LFunc.cells) p.funcs) (q4B _)
  dsimp only[q9w]at hlf
  refine zA1f @hlf q5Q eS ?_
  refine Y2H (fun i:Nat=>[(1,.ptr 0 0),(13,.int .i64 p.funcs.list.length),(14,.int .i64 i)]) (fun i g=>i≤p.funcs.list.length∧1≤g.nx∧g.get 0=some (.cells q0o p.cells)∧(∀t x,t<i→p.funcs.list[t]? =some x→okF p t x=true)) (fun i=>p.funcs.list.length-i) (0) ?_ ?_ ?_
  focus(repeat' first|exact q0h|refine q0e (by simp) ?_)
  ·exact⟨Y0E _,by simp,by simp,fun t x ht=>absurd ht (Y2K t)⟩
  rintro i g ⟨hi,hgn,hg,hall⟩
  have hg':=hg
  dsimp only[q0o,LProg.cells]at hg
  refine zR0 ?_
  refine Y2w hP rfl (fun hc=>Y2s ?_) (fun hc=>Y2t ?_)
  ·simp at hc
   obtain⟨x,hx⟩:=q0b hc
   have G:GateAt p i x:=⟨FnAt.of hs h6 hx,h6,ho⟩
   have eF:=x1G hV G
   simp only[LProg.cells]at eF
   dsimp only[q0a]
   rcases x5l (p:=p) (f:=i) (x:=x)with⟨hv,hok⟩|⟨⟨b,hv⟩,hbad⟩
   ·rw[hv]at eF
    have eI:=x2b hP
    dsimp only[q2l]at eI
    refine zA2f @hg z0d eF z7y eI ?_
    refine⟨i+1,by omega,trivial,?_,by omega,hgn,hg',fun t y ht hy=> ?_⟩
    ·exact zLf (w64s (show i<9000000000000000000 by omega))
    ·by_cases e:t=i
     ·subst e
      rw[hx]at hy;cases hy
      exact hok
     ·exact hall t y (by omega) hy
   ·rw[hv]at eF
    have eI:=z7X hP i b
    dsimp only[q2l]at eI
    rw[x3X h6 hx hbad]
    repeat' first|refine zR2f @hg z0d eF z7y eI ?_|(refine Y2u ⟨.inr rfl,_,_,rfl,rfl,?_⟩;dsimp only[q0q])
  ·simp at hc
   obtain rfl:i=p.funcs.list.length:=by omega
   dsimp only[q0a]
   rw[x6X h6 h1 fun f x hf=>hall f x (Y0m.1 hf).1 hf]
   repeat' first|refine zR0 ?_|(refine Y2u ⟨.inr rfl,_,_,rfl,rfl,?_⟩;dsimp only[q0q])
 ·have h12:q2d p=q2I p:=by unfold q2d;rw[Y0c h6]
  rw[h12]
  repeat' first|refine zR1f @h6 q5Q eS ?_|(refine Y2u ⟨.inr rfl,_,_,rfl,rfl,?_⟩;dsimp only[q0q])
end Go.Ax
set_option maxRecDepth 20000
noncomputable section
namespace Go.Ax
open Go.Proofs
variable{F:Nat→Option Obj}{gl:Nat→AV}{K:Knob}{m:Loc}
def VW(P:Program)(F:Nat→Option Obj)(x y:AV):Prop:=∀(m:Loc) c,VRel P F m x c→VRel P F m y c
theorem VW.refl{P:Program}(x:AV):VW P F x x:=fun _ _ h=>h
def VWL(P:Program)(F:Nat→Option Obj)(r s:List AV):Prop:=r.length=s.length∧∀(j:Nat) (x y:AV),r[j]? =some x→s[j]? =some y→VW P F x y
theorem VWL.refl{P:Program}(r:List AV):VWL P F r r:=⟨rfl,fun j x y h1 h2=>by rw[h1]at h2;cases h2;exact .refl _⟩
theorem VWL.cons{P:Program}{x y:AV}{r s:List AV}(h:VW P F x y)(k:VWL P F r s):VWL P F (x::r) (y::s):=⟨by simp[k.1],fun j a b h1 h2=>by
  cases j with
  |zero=>cases h1;cases h2;exact h
  |succ j=>exact k.2 j a b h1 h2⟩
theorem VW.agg{P:Program}{r s:List AV}(h:VWL P F r s):VW P F (.agg r) (.agg s):=fun m c hc=>by
 obtain⟨a,rfl,ha⟩:=Y0q hc
 refine Y0o ⟨by rw[←h.1];exact ha.len,fun i x y hx hy=> ?_⟩
 have hi:i<r.length:=by rw[h.1];exact(Y0m.1 hx).1
 exact h.2 i _ x (Y0n hi) hx m y (ha.at' i _ y (Y0n hi) hy)
theorem VW.isl{P:Program}{xs ys:List (List AV)}(hl:xs.length=ys.length)(h:∀(i:Nat) (r s:List AV),xs[i]? =some r→ys[i]? =some s→VWL P F r s):VW P F (.isl xs) (.isl ys):=fun m c hc=>by
  cases hc with
  | isl0 a cap=>
    have:ys= []:=Y1y (by simpa using hl.symm)
    subst this
    exact .isl0 a cap
  | isl es f hF hlc hes hf hcc=>
    have key:=VRel.isl (P:=P) (F:=F) (m:=m) (xs:=ys) es f hF (by rw[←hl];exact hlc) (fun c hc'=>by
        obtain⟨k,hk⟩:=Y3R hc'
        have hkl:k<xs.length:=by rw[hl];exact(Y0m.1 hk).1
        rw[←(h k _ c (Y0n hkl) hk).1]
        exact hes _ (Y0H hkl)) (fun i' j' h1 h2=>hf i' j' (by rw[hl];exact h1) h2) (fun i' j' c' x hc' hx=>by
        have hkl:i'<xs.length:=by rw[hl];exact(Y0m.1 hc').1
        have hw:=h i' _ c' (Y0n hkl) hc'
        have hjl:j'<xs[i'].length:=by rw[hw.1];exact(Y0m.1 hx).1
        exact hw.2 j' _ x (Y0n hjl) hx m _ (hcc i' j' _ _ (Y0n hkl) (Y0n hjl)))
    rw[←hl]at key
    exact key
theorem VW.av{P:Program}{α β:Type}{e:α→List AV}{d:β→List AV}{x:Sl α}{k:List β}(hl:x.list.length=k.length)(h:∀(i:Nat) (a:α) (b:β),x.list[i]? =some a→k[i]? =some b→VWL P F (e a) (d b)):VW P F (x.av e) ((Sl.mk k).av d):=by
  cases x with
  | nil=>
    have:k= []:=Y1y hl.symm
    subst this
    intro m c hc
    cases hc
    exact .isl0 none 0
  | mk l=>
    have hl:l.length=k.length:=hl
    refine VW.isl (by simpa using hl) fun i r s hr hs=> ?_
    rw[Y0R]at hr hs
    cases ha:l[i]? with
    |none=>rw[ha]at hr;cases hr
    | some a=>
      cases hb:k[i]? with
      |none=>rw[hb]at hs;cases hs
      | some b=>
        rw[ha]at hr;rw[hb]at hs
        cases hr;cases hs
        exact h i a b ha hb
theorem VW.avM{P:Program}{α β:Type}{e:α→List AV}{d:β→List AV}{x:Sl α}{g:α→β}(h:∀a,VWL P F (e a) (d (g a))):VW P F (x.av e) ((Sl.mk (x.list.map g)).av d):=
 VW.av (by simp) fun i a b ha hb=>by
  rw[Y0R,ha]at hb
  cases hb
  exact h a
theorem VW.ints{P:Program}{x:Sl Int}:VW P F (x.av cI) ((Sl.mk x.list).av cI):=VW.av rfl fun i a b ha hb=>by
 rw[ha]at hb
 cases hb
 exact .refl _
def z8r(x:LType):LType:={x with parts:=.mk x.parts.list}
def z6x(x:LIns):LIns:={x with args:=.mk x.args.list,frm:=.mk x.frm.list}
def z3t(b:LBlock):LBlock:={ins:=.mk (b.ins.list.map z6x),ed:=b.ed}
def z5m(f:LFunc):LFunc:={sig:=f.sig,blocks:=.mk (f.blocks.list.map z3t)}
def z6w(p:LProg):LProg:={types:=.mk (p.types.list.map z8r),funcs:=.mk (p.funcs.list.map z5m)}
theorem VWL.type{P:Program}(x:LType):VWL P F x.cells (z8r x).cells:=.cons (.refl _) (.cons (.refl _) (.cons (.refl _) (.cons .ints (.refl _))))
theorem VWL.ins{P:Program}(x:LIns):VWL P F x.cells (z6x x).cells:=.cons (.refl _) (.cons (.refl _) (.cons (.refl _) (.cons (.refl _) (.cons (.refl _) (.cons .ints (.cons .ints (.refl _)))))))
theorem VWL.block{P:Program}(x:LBlock):VWL P F x.cells (z3t x).cells:=.cons (.avM .ins) (.refl _)
theorem VWL.func{P:Program}(x:LFunc):VWL P F x.cells (z5m x).cells:=.cons (.refl _) (.cons (.avM .block) (.refl _))
theorem VW.prog{P:Program}(p:LProg):VW P F (.agg p.cells) (.agg (z6w p).cells):=.agg (.cons (.avM .type) (.cons (.avM .func) (.refl _)))
theorem VW.of{P:Program}{α:Type}{e:α→List AV}(l:List α):VW P F ((Sl.of l).av e) ((Sl.mk l).av e):=VW.av (by rw[Sl.of_list]) fun i a b ha hb=>by
 rw[Sl.of_list,hb]at ha
 cases ha
 exact .refl _
theorem VW.ofM{P:Program}{α:Type}{e:α→List AV}{l:List α}{g g':α→α}(h:∀a∈l,VWL P F (e (g' a)) (e (g a))):VW P F ((Sl.of (l.map g')).av e) ((Sl.mk (l.map g)).av e):=
  VW.av (by rw[Sl.of_list];simp) fun i a b ha hb=>by
    rw[Sl.of_list,Y0R]at ha
    rw[Y0R]at hb
    cases hq:l[i]? with
    |none=>rw[hq]at ha;cases ha
    | some q=>
      rw[hq]at ha hb
      cases ha;cases hb
      exact h q (Y0N hq)
theorem VWL.tB{P:Program}(x:LBlock):VWL P F (z6o (z3t x)).cells (z3t x).cells:=by
 refine .cons ?_ (.refl _)
 show VW P F ((Sl.of ((x.ins.list.map z6x).map x7B)).av LIns.cells) ((Sl.mk (x.ins.list.map z6x)).av LIns.cells)
 rw[Y1D,show x7B∘z6x=z6x from rfl]
 exact .of _
theorem VWL.tF{P:Program}(x:LFunc):VWL P F (twinF (z5m x)).cells (z5m x).cells:=by
 refine .cons (.refl _) (.cons ?_ (.refl _))
 show VW P F ((Sl.of ((x.blocks.list.map z3t).map z6o)).av LBlock.cells) ((Sl.mk (x.blocks.list.map z3t)).av LBlock.cells)
 rw[Y1D]
 exact VW.ofM fun a _=>.tB a
theorem VW.twin{P:Program}(p:LProg):VW P F (.agg (twinP (z6w p)).cells) (.agg (z6w p).cells):=by
 refine .agg (.cons ?_ (.cons ?_ (.refl _)))
 ·show VW P F ((Sl.of ((p.types.list.map z8r).map z6n)).av LType.cells) ((Sl.mk (p.types.list.map z8r)).av LType.cells)
  rw[Y1D,show z6n∘z8r=z8r from rfl]
  exact .of _
 ·show VW P F ((Sl.of ((p.funcs.list.map z5m).map Go.Ax.twinF)).av LFunc.cells) ((Sl.mk (p.funcs.list.map z5m)).av LFunc.cells)
  rw[Y1D]
  exact VW.ofM fun a _=>.tF a
theorem PureC.args{P:Program}{f:FuncId}{x y v:AV}(hp:PureC P F f [y] v)(h:VW P F x y):PureC P F f [x] v:=fun m w n cargs hfr hA=>by
 refine hp m w n cargs hfr ?_
 obtain⟨c,k,e,h1,h2⟩:=hA.cases_cons
 rw[e]
 exact LRel.cons (h m c h1) h2
theorem PureC.weak{P:Program}{f:FuncId}{args:List AV}{v v':AV}(hp:PureC P F f args v)(h:VW P F v v'):PureC P F f args v':=fun m w n cargs hfr hA=>(hp m w n cargs hfr hA).mono fun e w' he=>by
 obtain⟨cv,fz,h1,h2,h3,h4,h5,h6,h7,h8⟩:=he
 exact⟨cv,fz,h1,h2,h3,h4,h5,h6,h7,h _ _ h8⟩
end Go.Ax
