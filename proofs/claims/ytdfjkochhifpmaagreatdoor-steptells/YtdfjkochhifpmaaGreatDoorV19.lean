import Derived.Test.YtdfjkochhifpmaaGreatDoorV18
set_option linter.unusedSimpArgs false
set_option linter.unusedVariables false
set_option maxRecDepth 20000
noncomputable section
namespace Go.Ax
open Go.Proofs
attribute [local irreducible] TW TO CallsT PureC
variable{F:Nat→Option Obj}{gl:Nat→AV}{K:Knob}{S S':Nat→Prop}
theorem Walk.append{to:Nat→List Nat}{bg dn l bg1 dn1:List Nat}(h:Walk to bg dn l bg1 dn1):∀{k bg2 dn2:List Nat},Walk to bg1 dn1 k bg2 dn2→Walk to bg dn (l++k) bg2 dn2:=by
 induction h with
 |nil=>exact fun h=>h
 |old h _ ih=>exact fun m=>.old h (ih m)
 |new h k _ _ ih=>exact fun m=>.new h k (ih m)
theorem Walk.grows{to:Nat→List Nat}{bg dn l bg' dn':List Nat}(h:Walk to bg dn l bg' dn'):∀x∈bg,x∈bg':=fun x hx=>by
 obtain⟨new,_,_,_,h4,_⟩:=h.spec
 exact(h4 x).2 (.inl hx)
def x5D(N:Nat)(bg:List Nat):Nat:=((List.range N).filter fun b=>decide (b∉bg)).length
theorem z6U{p q:Nat→Bool}(hpq:∀x,p x=true→q x=true):∀l:List Nat,(l.filter p).length≤(l.filter q).length
  |[]=>Y0u _
  | x::l=>by
    have ih:=z6U hpq l
    cases hp:p x with
    |true=>simp[hp,hpq x hp,ih]
    |false=>cases hq:q x<;>simp[hp,hq]<;>omega
theorem x1v{p q:Nat→Bool}(hpq:∀x,p x=true→q x=true):∀{l:List Nat} {x:Nat},x∈l→p x=false→q x=true→(l.filter p).length<(l.filter q).length
  | y ::l,x,hx,h1,h2=>by
    have ih0:=z6U hpq l
    rcases Y2k.1 hx with rfl|hx
    ·simp[h1,h2];omega
    · have ih:=x1v hpq hx h1 h2
      cases hp:p y with
      |true=>simp[hp,hpq y hp,ih]
      |false=>cases hq:q y<;>simp[hp,hq]<;>omega
theorem x5f{N:Nat}{a b:List Nat}(h:∀x∈a,x∈b):x5D N b≤x5D N a:=
 z6U (fun x hx=>by simp at hx⊢;exact fun hm=>hx (h x hm)) _
theorem z9u{N b:Nat}{bg:List Nat}(hb:b∉bg)(hN:b<N):x5D N (b::bg)<x5D N bg:=
 x1v (fun x hx=>by simp at hx⊢;exact hx.2) (Y2o.2 hN) (by simp) (by simpa using hb)
def MapIs(h:Hp)(r:Nat)(bg:List Nat):Prop:=∃es clock,h.get r=some (.map es clock)∧(∀e∈es,∃b:Nat,e.1= .int .i64 b∧b∈bg)∧∀b∈bg,∃e∈es,e.1= .int .i64 (b:Nat)
theorem x1l{C:Ctx}{kt:TypeId}{a b:Nat}:x2M C kt (.int .i64 (a:Int)) (.int .i64 (b:Int))=some (decide (a=b)):=by
 show some (Nat.beq a b)=_
 rw[z6K]
theorem z6T{C:Ctx}{kt:TypeId}{k:Nat}:∀{es:List (AV×AV×Nat)} {i:Nat},(∀e∈es,∃b:Nat,e.1= .int .i64 b∧b≠k)→z5H C kt (.int .i64 (k:Int)) es i=some none
  |[],_,_=>rfl
  | (q,v,b)::l,i,h=>by
    obtain⟨c,hc,hne⟩:=h _ Y0T
    dsimp only at hc
    subst hc
    unfold z5H
    rw[x1l,Y2F (fun e=>hne e.symm)]
    exact z6T fun e he=>h e (Y0U _ he)
theorem x1s{C:Ctx}{kt:TypeId}{k:Nat}:∀{es:List (AV×AV×Nat)} {i:Nat},(∀e∈es,∃b:Nat,e.1= .int .i64 b)→(∃e∈es,e.1= .int .i64 (k:Nat))→∃j v b,z5H C kt (.int .i64 (k:Int)) es i=some (some (j,v,b))
  |[],_,_,⟨e,he,_⟩=>by cases he
  | (q, v,b)::l,i,h,⟨e,he,hek⟩=>by
    obtain⟨c,hc⟩:=h _ Y0T
    dsimp only at hc
    subst hc
    unfold z5H
    rw[x1l]
    by_cases hkc:k=c
    ·rw[Y2G hkc];exact⟨_,_,_,rfl⟩
    · rw[Y2F hkc]
      refine x1s (fun e he=>h e (Y0U _ he)) ?_
      rcases Y2k.1 he with rfl|he
      · dsimp only at hek
        injection hek with _ hek
        exact absurd (by omega) hkc
      ·exact⟨e,he,hek⟩
theorem map_in{h:Hp}{r b:Nat}{bg:List Nat}(H:MapIs h r bg)(hb:b∈bg):∃v,q3b (Ctx.of Tryz.prog gl K) z6C (.map r) (.int .i64 (b:Int)) true h=some (.tup [v,.bool true]):=by
 obtain⟨es,clock,hg,h1,h2⟩:=H
 obtain⟨j,v,c,hf⟩:=x1s (C:=Ctx.of Tryz.prog gl K) (kt:=3) (k:=b) (es:=es) (i:=0) (fun e he=>(h1 e he).imp fun _ h=>h.1) (h2 b hb)
 refine⟨v,?_⟩
 unfold q3b z8U
 simp[hg,hf,z8V,z8t]
theorem map_out{h:Hp}{r b:Nat}{bg:List Nat}(H:MapIs h r bg)(hb:b∉bg):q3b (Ctx.of Tryz.prog gl K) z6C (.map r) (.int .i64 (b:Int)) true h=some (.tup [.int .i64 0,.bool false]):=by
 obtain⟨es,clock,hg,h1,h2⟩:=H
 have hf:=z6T (C:=Ctx.of Tryz.prog gl K) (kt:=3) (k:=b) (es:=es) (i:=0) fun e he=>by
  obtain⟨c,hc,hm⟩:=h1 e he
  exact⟨c,hc,fun e=>hb (e▸hm)⟩
 unfold q3b z8U
 simp[hg,hf,z8V,z8t]
theorem map_put{h:Hp}{r b:Nat}{bg:List Nat}(H:MapIs h r bg)(hb:b∉bg)(v:AV):∃es clock,q9Y (Ctx.of Tryz.prog gl K) z6C (.map r) (.int .i64 (b:Int)) v h=some (h.put r (.map es clock))∧∀g:Hp,g.get r=some (.map es clock)→MapIs g r (b::bg):=by
 obtain⟨es,clock,hg,h1,h2⟩:=H
 have hf:=z6T (C:=Ctx.of Tryz.prog gl K) (kt:=3) (k:=b) (es:=es) (i:=0) fun e he=>by
  obtain⟨c,hc,hm⟩:=h1 e he
  exact⟨c,hc,fun e=>hb (e▸hm)⟩
 refine⟨es++[(.int .i64 (b:Int),v,clock)],Nat.succ clock,?_,fun g hgg=>⟨_,_,hgg,fun e he=> ?_,fun c hc=> ?_⟩⟩
 ·unfold q9Y
  simp[hg,hf,z8V,z8t]
 ·rcases Y3o.1 he with he|he
  ·obtain⟨c,hc,hm⟩:=h1 e he
   exact⟨c,hc,Y0U _ hm⟩
  ·rw[Y2d.1 he];exact⟨b,rfl,Y0T⟩
 ·rcases Y2k.1 hc with rfl|hc
  ·exact⟨_,Y2f _ (Y2d.2 rfl),rfl⟩
  ·obtain⟨e,he,hek⟩:=h2 c hc
   exact⟨e,Y2e _ he,hek⟩
theorem map_len{h:Hp}{r:Nat}{bg:List Nat}(H:MapIs h r bg):∃n:Nat,q2S (Ctx.of Tryz.prog gl K) z6C (.map r) h=some (.int .i64 n):=by
 obtain⟨es,clock,hg,h1,h2⟩:=H
 refine⟨es.length,?_⟩
 unfold q2S
 simp[hg]
theorem MapIs.of{h g:Hp}{r:Nat}{bg:List Nat}(H:MapIs h r bg)(hg:g.get r=h.get r):MapIs g r bg:=by
 obtain⟨es,clock,h0,h1,h2⟩:=H
 exact⟨es,clock,hg.trans h0,h1,h2⟩
theorem x4k{P:Program}{C:Ctx}{ih:Code→St→Res}{st:St}{dd:Option Nat}{t:TypeId}{m k x:Operand}{ty:TypeId}{pos:String}{aft:Array Edge}{gd:Option (Nat×Bool)}:opA P C ih st ⟨dd,.mapUpdate t m k x,ty,pos,aft,gd⟩=(q9Y C t (st.ev C m) (st.ev C k) (st.ev C x) st.h).map fun h=>.val .undef h:=z8o
theorem a_makeMap{P:Program}{C:Ctx}{ih:Code→St→Res}{st:St}{dd:Option Nat}{t:TypeId}{ty:TypeId}{pos:String}{aft:Array Edge}{gd:Option (Nat×Bool)}:opA P C ih st ⟨dd,.makeMap t none,ty,pos,aft,gd⟩=(match C.ti t with|some ti=>(match ti.desc with| .map _ _=>some (.val (.map st.h.nx) (st.h.new (.map [] 0)))|_=>none)|none=>none):=by
 show(match some 0,C.ti t with|some _,some ti=>(match ti.desc with| .map _ _=>some (OpR.val (.map st.h.nx) (st.h.new (.map [] 0)))|_=>none)|_,_=>none)=_
 cases C.ti t<;>rfl
attribute [simp] x4k a_makeMap
def nI(l:List Nat):List Int:=l.map fun n:Nat=>(n:Int)
structure WalkAt(l:Sl LBlock)(q rm lo:Nat)(h0 h:Hp)(bg dn:List Nat):Prop where
 obj:∃dv,h.get q=some (.cells z6B [l.av LBlock.cells,.map rm,dv])∧Own 1 q0x lo h dv ((nI dn).map cI)
 map:MapIs h rm bg
 nx:lo≤h.nx
 frame:∀s,s<lo→s≠q→s≠rm→h.get s=h0.get s
 nodup:dn.Nodup
 sub:∀x∈dn,x∈bg
 low:∀x∈bg,x<l.list.length
theorem WalkAt.len{l:Sl LBlock}{q rm lo:Nat}{h0 h:Hp}{bg dn:List Nat}(H:WalkAt l q rm lo h0 h bg dn):dn.length≤l.list.length:=z3F _ _ H.nodup fun x hx=>H.low x (H.sub x hx)
def Reads(gl:Nat→AV)(K:Knob)(g:Hp)(v:AV)(ts:List Nat):Prop:=
 q2S (Ctx.of Tryz.prog gl K) q0m v g=some (.int .i64 ts.length)∧∀i t,ts[i]? =some t→∃p,indexAt (Ctx.of Tryz.prog gl K) q0m v (.int .i64 (i:Nat))=some p∧loadAt (Ctx.of Tryz.prog gl K) q0x p g=some (.int .i64 (t:Nat))
theorem each_w(hP:POk Tryz.prog F gl K){l:Sl LBlock}{q rm lo:Nat}{h0 h:Hp}{bg dn:List Nat}(v:AV)(ts:List Nat)(hlen:ts.length<1000000)
  (hv:∀g bg dn,WalkAt l q rm lo h0 g bg dn→Reads gl K g v ts)
  (hB:∀bg' dn' h' b,(∀x∈bg,x∈bg')→WalkAt l q rm lo h0 h' bg' dn'→b<l.list.length→CallsT Tryz.prog F h' (fun _ g=>∃bg2 dn2,Walk (toN l.list) bg' dn' [b] bg2 dn2∧WalkAt l q rm lo h0 g bg2 dn2) q2q [.ptr q 0,.int .i64 (b:Nat)])
  (hts:∀t∈ts,t<l.list.length) (H:WalkAt l q rm lo h0 h bg dn):
  CallsT Tryz.prog F h (fun _ g=>∃bg2 dn2,Walk (toN l.list) bg dn ts bg2 dn2∧WalkAt l q rm lo h0 g bg2 dn2) z2N [.ptr q 0,v,.fn (.func q2q) [] []]:=by
 refine Y2y hP q0f x4E rfl rfl ?_
 have hl0:=(hv h bg dn H).1
 dsimp only[q0m]at hl0
 refine zA0f @hl0 ?_
 refine Y2H (fun i:Nat=>[(0,.ptr q 0),(2,.fn (.func q2q) [] []),(8,v),(9,.int .i64 ts.length),(10,.int .i64 i)]) (fun i g=>i≤ts.length∧∃bg2 dn2,Walk (toN l.list) bg dn (ts.take i) bg2 dn2∧WalkAt l q rm lo h0 g bg2 dn2) (fun i=>ts.length-i) (0) ?_ ?_ ?_
 focus(repeat' first|exact q0h|refine q0e (by simp) ?_)
 ·exact⟨Y0E _,bg,dn,.nil _ _,H⟩
 rintro i g ⟨hi,bg1,dn1,hw,H1⟩
 refine zR0 ?_
 refine Y2w hP rfl (fun hc=>Y2s ?_) (fun hc=>Y2t ?_)
 ·simp at hc
  obtain⟨t,ht⟩:=q0b hc
  obtain⟨p,hp1,hp2⟩:=(hv g bg1 dn1 H1).2 i t ht
  dsimp only[q0m,q0x]at hp1 hp2
  dsimp only[q0a]
  refine zR0f (zc @hp1 @hp2) ?_
  refine Y3y hP z4X (hB bg1 dn1 g t hw.grows H1 (hts t (Y0N ht))) (by simp) rfl rfl rfl rfl (fun u g' hO=> ?_)
  obtain⟨bg2,dn2,hw2,H2⟩:=hO
  refine Y2X hP (by simp<;>rfl) ?_
  try dsimp only[goK]
  refine zA0 ?_
  refine⟨i+1,by omega,trivial,?_,by omega,bg2,dn2,?_,H2⟩
  ·exact zLf (w64s (show i<9000000000000000000 by omega))
  ·rw[Y3L,ht];exact hw.append hw2
 ·simp at hc
  rw[Y2Q hc]at hw
  dsimp only[q0a]
  refine zA0 ?_
  exact⟨.inl rfl,g,[],rfl,rfl,bg1,dn1,hw,H1⟩
theorem x7I{l:List LBlock}{b:Nat}{y:LBlock}(h:l[b]? =some y):toN l b=(to9 y.ed).map Int.toNat:=by simp[toN,toAt,h]
theorem nI_toN{l:List LBlock}(hto:∀b∈l,∀t∈to9 b.ed,0≤t∧t<l.length){b:Nat}{y:LBlock}(h:l[b]? =some y):nI (toN l b)=to9 y.ed:=by
  rw[x7I h,nI,Y1D]
  have:∀k:List Int,(∀t∈k,0≤t)→k.map ((fun n:Nat=>(n:Int))∘Int.toNat)=k:=fun k=>by
    induction k with
    |nil=>exact fun _=>rfl
    | cons a k ih=>
      intro hk
      rw[Y1f,ih fun t ht=>hk t (Y0U _ ht)]
      have:=hk a Y0T
      congr 1
      show((a.toNat:Nat):Int)=a
      omega
  exact this _ fun t ht=>(hto y (Y0N h) t ht).1
theorem x6j(L:Sl Int)(ts:List Nat)(h:L.list=nI ts)(g:Hp):Reads gl K g (L.av cI) ts:=by
 have hl:L.list.length=ts.length:=by rw[h];simp[nI]
 refine⟨?_,fun i t ht=> ?_⟩
 ·have:=q3j (C:=Ctx.of Tryz.prog gl K) (t:=q0m) (h:=g) (q2c (e:=cI) L) (q4B _)
  rw[this,hl]
  simp
 ·have hi:i<ts.length:=(Y0m.1 ht).1
  have hLi:L.list[i]? =some (t:Int):=by rw[h,nI,Y0R,ht];rfl
  have hav:=q0j (e:=cI) (x:=L) (by omega)
  rw[hav]
  refine⟨.iptr (L.list.map cI) i 0,?_,?_⟩
  ·simp[indexAt,hLi]
  ·simp[loadAt,hLi,q2r]
theorem WalkAt.begin{l:Sl LBlock}{q rm lo:Nat}{h0 h m:Hp}{bg dn:List Nat}{b:Nat}(H:WalkAt l q rm lo h0 h bg dn)(hqm:q≠rm)(hq:q<lo)(hrm:rm<lo)(hb:b<l.list.length)(hm:MapIs m rm (b::bg))(hget:∀s,s≠rm→m.get s=h.get s)(hnx:m.nx=h.nx):WalkAt l q rm lo h0 m (b::bg) dn:=by
 obtain⟨⟨dv,h1,h2⟩,h3,h4,h5,h6,h7,h8⟩:=H
 refine⟨⟨dv,(hget q hqm).trans h1,h2.same (by omega) fun s hs _=>hget s (by omega)⟩,hm,by omega,fun s hs a1 a2=>(hget s a2).trans (h5 s hs a1 a2),h6,fun x hx=>Y0U _ (h7 x hx),fun x hx=> ?_⟩
 rcases Y2k.1 hx with rfl|hx
 ·exact hb
 ·exact h8 x hx
set_option maxHeartbeats 2000000 in
theorem block_w(hP:POk Tryz.prog F gl K)(hX:∀f a,K.ext f a=none){l:Sl LBlock}{q rm lo:Nat}{h0:Hp}(hlen:l.list.length<1000000)(hto:∀b∈l.list,∀t∈to9 b.ed,0≤t∧t<l.list.length)(hqm:q≠rm)(hq:q<lo)(hrm:rm<lo):
  ∀(n:Nat) (bg dn:List Nat) (h:Hp) (b:Nat),x5D l.list.length bg≤n→WalkAt l q rm lo h0 h bg dn→b<l.list.length→
   CallsT Tryz.prog F h (fun _ g=>∃bg2 dn2,Walk (toN l.list) bg dn [b] bg2 dn2∧WalkAt l q rm lo h0 g bg2 dn2) q2q [.ptr q 0,.int .i64 (b:Nat)]:=by
 refine fun n=>Nat.strongRecOn n fun n hrec bg dn h b hn H hb=> ?_
 refine Y2y hP q0f z5c rfl rfl ?_
 obtain⟨⟨dv,hobj,hown⟩,hmap,hnx,hfr,hnd,hsub,hlow⟩:=id H
 have hobj':=hobj
 dsimp only[z6B]at hobj
 by_cases hbg:b∈bg
 ·obtain⟨v,hlk⟩:=map_in (gl:=gl) (K:=K) hmap hbg
  dsimp only[z6C]at hlk
  refine zA0f (zc @hobj @hlk) ?_
  exact⟨bg,dn,.old hbg (.nil _ _),H⟩
 ·have hlk:=map_out (gl:=gl) (K:=K) hmap hbg
  dsimp only[z6C]at hlk
  have hlt:=z9u hbg hb
  obtain⟨k,rfl⟩:∃k,n=k+1:=⟨n-1,by omega⟩
  obtain⟨y,hy⟩:=q0b hb
  have hbd:=Y2G hb
  have hbv:=q0j (e:=LBlock.cells) (show 0<l.list.length by omega)
  refine zA0f (zc @hobj @hlk) ?_
  obtain⟨ln,hln⟩:=map_len (gl:=gl) (K:=K.tell []) (h:=h.up) (hmap.of q4z)
  obtain⟨es,clock,hput,hmi⟩:=map_put (gl:=gl) (K:=K.tell []) (h:=h.up) (hmap.of q4z) hbg (.int .i64 ln)
  dsimp only[z6C]at hln hput
  refine zHf (zc @hobj (zc @hln (zc @hput (zc (show¬h.nx≤q by omega) (show¬h.nx≤rm by omega))))) t0 (zw [0,1,3,7,0,0,32,96,224,480,1023]) ?_
  refine Y2U (fun m=>WalkAt l q rm lo h0 m (b::bg) dn) (H.begin hqm hq hrm hb (hmi _ (by show(h.put rm _).get rm=_;rw[get_put,Y0e rfl])) (fun s hs=>by show(h.put rm _).get s=_;rw[get_put,Y0c (fun e=>hs e.symm)]) rfl) fun m Hm=> ?_
  obtain⟨⟨dv1,hobj1,hown1⟩,_⟩:=id Hm
  dsimp only[z6B]at hobj1
  have e1:=x0Z hP y.ed
  dsimp only[LEnd.cells]at e1
  refine zR1f (zc @hobj1 (zc @hy (zc @hbd @hbv))) z2S e1 ?_
  have e2:=each_w hP (ts:=toN l.list b) ((slL (to9 y.ed)).av cI) (by rw[x7I hy,Y1q];have:=z6D y.ed;omega) (fun g _ _ _=>x6j (slL (to9 y.ed)) _ (by rw[q0l,nI_toN hto hy]) g) (fun bg' dn' h' b' hs H' hb'=>hrec k (by omega) bg' dn' h' b' (by have:=x5f (N:=l.list.length) hs;omega) H' hb') (fun t ht=>q9i hto ht) Hm
  refine Y3y hP z7x e2 (by simp) rfl rfl rfl rfl (fun u g hO=> ?_)
  obtain⟨bg2,dn2,hw2,H2⟩:=hO
  refine Y2X hP (by simp<;>rfl) ?_
  try dsimp only[goK]
  obtain⟨⟨dv2,hobj2,hown2⟩,hmap2,hnx2,hfr2,hnd2,hsub2,hlow2⟩:=id H2
  dsimp only[z6B]at hobj2
  have hl2:=H2.len
  obtain⟨v',h',q1,q2,q3,q4⟩:=hown2.push (t:=q0m) (row:=[.int .i64 (b:Int)]) (q1a (gl:=gl) (K:=K)) q1v rfl rfl (by simp[nI];omega) hnx2
  dsimp only[q0m,q0x]at q1
  have hq':h'.get q=_:=(q3.get q hq).trans hobj2
  refine zA0f (zc @hobj2 (zc @q1 (zc @hq' (zc @q2.cell.1 @q2.cell.2)))) ?_
  obtain⟨new,w1,w2,_,_,_⟩:=hw2.spec
  have hbd2:b∉dn2:=fun hm=>by
   rw[w1]at hm
   rcases Y3o.1 hm with hm|hm
   ·exact hbg (hsub b hm)
   ·exact w2 b hm Y0T
  have hbb:b∈bg2:=hw2.grows b Y0T
  refine⟨.inl rfl,_,[],rfl,rfl,bg2,dn2++[b],.new hbg hw2 (.nil _ _),⟨v',by rw[get_put,Y0e rfl],?_⟩,hmap2.of ((by rw[get_put,Y0c hqm]:(h'.put q _).get rm=h'.get rm).trans (q3.get rm hrm)),by show lo≤h'.nx;omega,fun s hs a1 a2=> ?_,?_,fun x hx=> ?_,hlow2⟩
  ·have hrows:(nI (dn2++[b])).map cI=(nI dn2).map cI++[[.int .i64 (b:Int)]]:=by simp[nI]
   rw[hrows]
   exact q2.same (by show h'.nx≤h'.nx;exact Y0u _) fun s hs _=>by rw[get_put,Y0c (by omega)]
  ·rw[get_put,Y0c (fun e=>a1 e.symm),q3.get s hs];exact hfr2 s hs a1 a2
  ·refine Y3J.2 ⟨hnd2,by simp,fun x hx y hy e=> ?_⟩
   rw[Y2d.1 hy]at e
   exact hbd2 (e▸hx)
  ·rcases Y3o.1 hx with hx|hx
   ·exact hsub2 x hx
   ·rw[Y2d.1 hx];exact hbb
theorem x6i{g:Hp}{r:Nat}{x:Bool}(hg:g.get r=some (.cells q0x [.int .i64 0])):Reads gl K g (.sl r 0 1 1 1 x) [0]:=by
  refine⟨by simp,fun i t ht=> ?_⟩
  cases i with
  | zero=>
    simp at ht
    subst ht
    exact⟨.ptr r 0,by simp[indexAt,natZ],by simp[loadAt,hg,q2r]⟩
  |succ i=>simp at ht
theorem from_mem(hP:POk Tryz.prog F gl K)(hX:∀f a,K.ext f a=none){l:Sl LBlock}(hlen:l.list.length<1000000)(hl0:0<l.list.length)(hto:∀b∈l.list,∀t∈to9 b.ed,0≤t∧t<l.list.length)(h0:Hp)(r:Nat)(x:Bool)(hg:h0.get r=some (.cells q0x [.int .i64 0]))(hr:r<h0.nx):
  CallsT Tryz.prog F h0 (fun v g=>Wid h0 g∧∃bg dn,Walk (toN l.list) [] [] [0] bg dn∧Own 1 q0x (h0.nx+2) g v ((nI dn).map cI)∧dn.length≤l.list.length∧∀x∈dn,x<l.list.length) q9G [l.av LBlock.cells,.sl r 0 1 1 1 x]:=by
 refine Y2y hP q0f x4D rfl rfl ?_
 refine zR0 ?_
 have H0:WalkAt l (h0.nx+1) h0.nx (h0.nx+2) ((h0.new (.map [] 0)).new (.cells z6B [l.av LBlock.cells,.map h0.nx,.nilsl])) ((h0.new (.map [] 0)).new (.cells z6B [l.av LBlock.cells,.map h0.nx,.nilsl])) [] []:=
  ⟨⟨.nilsl,by simp,.nil⟩,⟨[],0,by simp,nofun,nofun⟩,by simp,fun _ _ _ _=>rfl,.nil,nofun,nofun⟩
 have e1:=each_w hP (ts:=[0]) (.sl r 0 1 1 1 x) (by simp) (fun g bg dn H=>x6i (by rw[H.frame r (by omega) (by omega) (by omega)];simp[show¬h0.nx+1=r by omega,show¬h0.nx=r by omega];exact hg)) (fun bg' dn' h' b' _ H' hb'=>block_w hP hX hlen hto (by omega) (by omega) (by omega) _ bg' dn' h' b' (Y0u _) H' hb') (by intro t ht;rw[Y2d.1 ht];exact hl0) H0
 refine Y3y hP z7x e1 (by simp) rfl rfl rfl rfl (fun u g hO=> ?_)
 obtain⟨bg2,dn2,hw2,H2⟩:=hO
 refine Y2X hP (by simp<;>rfl) ?_
 try dsimp only[goK]
 obtain⟨⟨dv2,hobj2,hown2⟩,hmap2,hnx2,hfr2,hnd2,hsub2,hlow2⟩:=id H2
 dsimp only[z6B]at hobj2
 refine zA0f @hobj2 ?_
 refine⟨⟨by omega,fun s hs=> ?_⟩,bg2,dn2,hw2,hown2,H2.len,fun y hy=>hlow2 y (hsub2 y hy)⟩
 rw[hfr2 s (by omega) (by omega) (by omega)]
 simp[show¬h0.nx+1=s by omega,show¬h0.nx=s by omega]
end Go.Ax
set_option maxRecDepth 20000
noncomputable section
namespace Go.Ax
open Go.Proofs
attribute [local irreducible] TW TO CallsT PureC
variable{F:Nat→Option Obj}{gl:Nat→AV}{K:Knob}{S S':Nat→Prop}
theorem x1n(hP:POk Tryz.prog F gl K)(hX:∀f a,K.ext f a=none){l:Sl LBlock}(hlen:l.list.length<1000000)(hl0:0<l.list.length)(hto:∀b∈l.list,∀t∈to9 b.ed,0≤t∧t<l.list.length)(h0:Hp)(r:Nat)(x:Bool)(hg:h0.get r=some (.cells q0x [.int .i64 0]))(hr:r<h0.nx):
  CallsT Tryz.prog F h0 (fun v g=>Wid h0 g∧∃bg dn,Walk (toN l.list) [] [] [0] bg dn∧v=(slL (nI dn)).av cI∧dn.length≤l.list.length∧∀x∈dn,x<l.list.length) q9G [l.av LBlock.cells,.sl r 0 1 1 1 x]:=by
 refine CallsT.frz (from_mem hP hX hlen hl0 hto h0 r x hg hr) fun v g ⟨hw,bg,dn,h1,h2,h3,h4⟩=> ?_
 refine⟨fun s=>h0.nx≤s,4,(slL (nI dn)).av cI,?_,⟨by show h0.nx≤g.nx;exact hw.nx,fun s hs=>by rw[z8m (by omega)];exact hw.get s hs⟩,bg,dn,h1,rfl,h3,h4⟩
 have:Own 1 q0x (h0.nx+2) (g.only fun s=>h0.nx≤s) v ((nI dn).map cI):=h2.same (Y0u _) fun s hs _=>z3x (S:=fun s=>h0.nx≤s) (by omega)
 exact this.slL
theorem x1f:∀{a b:List Int},a.Pairwise (·<·)→b.Pairwise (·<·)→(∀x,x∈a↔x∈b)→a=b
  |[],[],_,_,_=>rfl
  |[],y::b,_,_,h=>absurd ((h y).2 Y0T) (by simp)
  |x::a,[],_,_,h=>absurd ((h x).1 Y0T) (by simp)
  | x ::a,y::b,ha,hb,h=>by
    obtain⟨ha1,ha2⟩:=List.pairwise_cons.1 ha
    obtain⟨hb1,hb2⟩:=List.pairwise_cons.1 hb
    have hxy:x=y:=by
      rcases Y2k.1 ((h x).1 Y0T)with e|e
      ·exact e
      · rcases Y2k.1 ((h y).2 Y0T)with e'|e'
        ·exact e'.symm
        ·have:=hb1 x e;have:=ha1 y e';omega
    subst hxy
    congr 1
    refine x1f ha2 hb2 fun z=>⟨fun hz=> ?_,fun hz=> ?_⟩
    · rcases Y2k.1 ((h z).1 (Y0U _ hz))with e|e
      ·have:=ha1 z hz;omega
      ·exact e
    · rcases Y2k.1 ((h z).2 (Y0U _ hz))with e|e
      ·have:=hb1 z hz;omega
      ·exact e
theorem z9j{to:Nat→List Nat}{bg dn:List Nat}(h:Walk to [] [] [0] bg dn)(x:Nat):x∈dn↔∃l,Way (q6O to) l x:=by
  obtain⟨⟨par,T⟩,⟨t,ht⟩,hn,hcl,hbg⟩:=h.order
  have h0:0∈dn:=by
    have:0∈dn.reverse:=by rw[ht];exact Y0T
    simpa using this
  constructor
  · have key:∀n x,dn.reverse.idxOf x≤n→x∈dn→∃l,Way (q6O to) l x:=fun n=>by
      induction n with
      | zero=>
        intro x hx hm
        by_cases hx0:x=0
        ·subst hx0;exact⟨_,.start⟩
        · have:=T.fall x hx0 hm
          omega
      | succ n ih=>
        intro x hx hm
        by_cases hx0:x=0
        ·subst hx0;exact⟨_,.start⟩
        · have hf:=T.fall x hx0 hm
          obtain⟨l,hl⟩:=ih (par x) (by omega) (T.there x hm)
          exact⟨_,.step hl (T.edge x hx0 hm)⟩
    exact key _ x (Y0u _)
  · rintro⟨l,hl⟩
    induction hl with
    |start=>exact h0
    |step _ e ih=>exact hcl _ ih _ e
theorem z3M{l:List LBlock}(hl0:0<l.length)(hto:∀b∈l,∀t∈to9 b.ed,0≤t∧t<l.length)(b:Nat):(z0l l (-1)).getD b false=true↔∃k,Way (q6O (toN l)) k b:=by
 have:=z8K (to:=toN l) hl0 (fun i t _ ht=>q9i hto ht) b
 rw[←this,Y3l]
 unfold z0l
 cases h:(come (toN l) (-1) l.length (z0k l.length (-1)))[b]? with
 |none=>simp
 |some c=>simp
theorem z5s{l:List LBlock}{k:Nat}{x:Int}:x∈q1d l k↔∃i:Nat,x=i∧i<k∧(z0l l (-1)).getD i false=true:=by
 unfold q1d
 simp only[Y2S,List.mem_filter,Y2o]
 constructor
 ·rintro⟨i,⟨h1,h2⟩,rfl⟩;exact⟨i,rfl,h1,h2⟩
 ·rintro⟨i,rfl,h1,h2⟩;exact⟨i,⟨h1,h2⟩,rfl⟩
theorem x3v(l:List LBlock)(k:Nat):(q1d l k).Pairwise (·<·):=by
 unfold q1d
 rw[List.pairwise_map]
 refine List.Pairwise.imp (fun{a b} h=>by omega:∀{a b:Nat},a<b→(a:Int)<b) ?_
 exact List.Pairwise.sublist List.filter_sublist List.pairwise_lt_range
theorem x1H{l:List LBlock}(hl0:0<l.length)(hto:∀b∈l,∀t∈to9 b.ed,0≤t∧t<l.length){bg dn:List Nat}(h:Walk (toN l) [] [] [0] bg dn)(hlow:∀x∈dn,x<l.length):z8T (nI dn)=q1d l l.length:=by
 have hn:=h.order.2.2.1
 have hp:(z8T (nI dn)).Perm (nI dn):=List.mergeSort_perm ..
 have hnd:(z8T (nI dn)).Nodup:=hp.nodup_iff.2 (by
  unfold nI
  unfold List.Nodup at hn⊢
  rw[List.pairwise_map]
  exact hn.imp fun h e=>h (by omega))
 refine x1f ?_ (x3v _ _) fun x=> ?_
 ·have hs:=x1I (nI dn)
  unfold List.Nodup at hnd
  exact(hs.and hnd).imp fun⟨a,b⟩=>by omega
 ·rw[hp.mem_iff,z5s]
  unfold nI
  rw[Y2S]
  constructor
  ·rintro⟨i,hi,rfl⟩
   exact⟨i,rfl,hlow i hi,(z3M hl0 hto i).2 ((z9j h i).1 hi)⟩
  ·rintro⟨i,rfl,h1,h2⟩
   exact⟨i,(z9j h i).2 ((z3M hl0 hto i).1 h2),rfl⟩
theorem z8Q(hV:Env F gl K){p:LProg}{f:Nat}{x:LFunc}(H:GateAt p f x):
  PureC Tryz.prog F z1b [.agg p.cells,.int .i64 f] (.tup [(slL (q1d x.blocks.list x.blocks.list.length)).av cI,.int .i64 0]):=by
 have hP:=hV.P
 have hX:=hV.X
 obtain⟨hs1,hs2,hs3⟩:=H.fn.small
 refine Y2z (O:=fun u g=>frzV 5 g u=some (.tup [(slL (q1d x.blocks.list x.blocks.list.length)).av cI,.int .i64 0])) (k:=5) (by simp) ?_ (fun u g e=>e)
 refine Y2y hP q0f x2C rfl rfl ?_
 have e1:=q8P hV H 0 (by omega)
 have hto:=q4d H.fn.ok
 refine zR1 z1e e1 ?_
 refine Y3y hP z7w (x1n hP hX (by omega) (by omega) hto _ 1 true (by simp) (by simp)) (by simp) rfl rfl rfl rfl (fun v g hO=> ?_)
 obtain⟨hw,bg,dn,h1,rfl,h3,h4⟩:=hO
 refine Y2X hP (by simp<;>rfl) ?_
 try dsimp only[goK]
 refine Y3y hP q9U (x5L hP (z4V _) (z3J _)) (by simp) rfl rfl rfl rfl (fun v2 g2 hO=> ?_)
 obtain⟨hw2,rfl,hn2,hg2⟩:=hO
 refine Y2X hP (by simp<;>rfl) ?_
 try dsimp only[goK]
 refine Y3y hP z2T (x5X hP (ls:=slL (nI dn)) (by rw[q0l];simp[nI];omega) hg2 (by omega)) (by simp) rfl rfl rfl rfl (fun v3 g3 hO=> ?_)
 obtain⟨hw3,hown⟩:=hO
 rw[q0l,x1H (by omega) hto h1 h4]at hown
 refine Y2X hP (by simp<;>rfl) ?_
 try dsimp only[goK]
 refine zA0 ?_
 have:=hown.slL
 unfold frzV
 simp only[mapO,this]
 rfl
end Go.Ax
set_option maxRecDepth 20000
noncomputable section
namespace Go.Ax
open Go.Proofs
attribute [local irreducible] TW TO CallsT PureC RoundT
variable{F:Nat→Option Obj}{gl:Nat→AV}{K:Knob}{S S':Nat→Prop}
theorem rev_take{l:List Int}{i:Nat}{x:Int}(h:l[i]? =some x):(l.drop i).reverse=(l.drop (i+1)).reverse++[x]:=by
 obtain⟨hi,rfl⟩:=Y0m.1 h
 rw[Y3u hi,List.reverse_cons]
theorem x7f(hP:POk Tryz.prog F gl K){h:Hp}{lp q:Nat}{ls:Sl Int}(hlen:ls.list.length<1000000)(J:List Int→Hp→Prop)(hq:∀ks g,J ks g→g.get q=some (.cells q0m [ls.av cI]))(h0:J [] h)
  (hy:∀ks (i:Nat) x g,J ks g→ks.length<ls.list.length→RoundT Tryz.prog F g (fun v g'=>v= .bool true∧J (ks++[x]) g') lp [.int .i64 i,.int .i64 x]):
  CallsT Tryz.prog F h (fun _ g=>J ls.list.reverse g) q1s [.fn (.yield lp) [] [],.ptr q 0]:=by
 refine Y2y hP q0f q8m rfl rfl ?_
 have hq0:=hq [] h h0
 dsimp only[q0m]at hq0
 have hw:=w64e (n:=(ls.list.length:Int)-1) (by omega) (by omega)
 refine zA0f @hq0 ?_
 refine Y2H (fun i:Nat=>[(0,.fn (.yield lp) [] []),(1,.ptr q 0),(3,.int .i64 ((ls.list.length:Int)-1-i))]) (fun i g=>i≤ls.list.length∧J (ls.list.drop (ls.list.length-i)).reverse g) (fun i=>ls.list.length-i) (0) ?_ ?_ ?_
 focus(repeat' first|exact q0h|refine q0e (by simp[hw]) ?_)
 ·exact⟨Y0E _,by rw[Y1H,List.drop_length];exact h0⟩
 rintro i g ⟨hi,hJ⟩
 refine zR0 ?_
 refine Y2w hP rfl (fun hc=>Y2s ?_) (fun hc=>Y2t ?_)
 ·simp at hc
  obtain⟨k,hk⟩:∃k,ls.list.length=i+1+k:=⟨ls.list.length-(i+1),by omega⟩
  have hki:(ls.list.length:Int)-1-i=(k:Int):=by omega
  obtain⟨x,hx⟩:=q0b (show k<ls.list.length by omega)
  have hxd:=Y2G (show k<ls.list.length by omega)
  have hav:=q0j (e:=cI) (show 0<ls.list.length by omega)
  have hqg:=hq _ g hJ
  dsimp only[q0m]at hqg
  have hlen':(ls.list.drop (ls.list.length-i)).reverse.length<ls.list.length:=by simp;omega
  rw[hki]
  dsimp only[q0a]
  refine zR0f (zc @hqg (zc @hav (zc @hx @hxd))) ?_
  refine TO.ycall hP (by simp) rfl rfl rfl (hy _ k x g hJ hlen') ?_
  rintro v g2 ⟨rfl,hJ3⟩
  refine Y2X hP (by simp<;>rfl) ?_
  try dsimp only[goK]
  refine zA0 ?_
  have hw2:=w64e (n:=(k:Int)-1) (by omega) (by omega)
  refine⟨i+1,by omega,trivial,?_,by omega,?_⟩
  ·exact zLf (zc @hw2 (show(ls.list.length:Int)-1-((i:Int)+1)=(k:Int)-1 by omega))
  ·have e1:ls.list.length-(i+1)=k:=by omega
   have e2:ls.list.length-i=k+1:=by omega
   rw[e1,rev_take hx,←e2];exact hJ3
 ·simp at hc
  obtain rfl:i=ls.list.length:=by omega
  rw[Y1s,Y1Q]at hJ
  dsimp only[q0a]
  refine zA0 ?_
  exact⟨.inl rfl,g,[],rfl,rfl,hJ⟩
theorem x2j(hP:POk Tryz.prog F gl K){h:Hp}{v:AV}(hv:cellsOf v=some [v])(hc:q1f v=true):
  CallsT Tryz.prog F h (fun u g=>Wid h g∧u= .fn (.func q1s) [] [.ptr h.nx 0]∧g.nx=h.nx+1∧g.get h.nx=some (.cells q0m [v])) q2O [v]:=by
 refine Y2y hP q0f q8Y rfl rfl ?_
 refine zA0f (zc @hv @hc) ?_
 exact⟨(Y2M h).new _,trivial,by simp,by simp⟩
structure JO(h:Hp)(tm0:Tr AV)(A B:Code)(q bx:Nat)(lv:AV)(ks:List Int)(g:Hp):Prop where
 frame:∀s,s<h.nx→s≠bx→g.get s=h.get s
 cl:g.get q=some (.cells q0m [lv])
 box:∃v,g.get bx=some (.cells q0m [v])∧Own 1 q0x (h.nx+2) g v (ks.map cI)
 dd:g.get h.nx=some (.defd (some []))
 lp:g.get (h.nx+1)=some (.loop .ready none tm0 29 [22,23] A B h.nx)
 nx:h.nx+2≤g.nx
theorem coreB(hP:POk Tryz.prog F gl K){h:Hp}{q bx:Nat}{ls:Sl Int}{tm0:Tr AV}{A B:Code}(hlen:ls.list.length<1000000)(hq:h.get q=some (.cells q0m [ls.av cI]))(hqn:q<h.nx)(hb:h.get bx=some (.cells q0m [.nilsl]))(hbn:bx<h.nx)
  (hy:∀ks (i:Nat) x g,JO h tm0 A B q bx (ls.av cI) ks g→ks.length<ls.list.length→RoundT Tryz.prog F g (fun v g'=>v= .bool true∧JO h tm0 A B q bx (ls.av cI) (ks++[x]) g') (h.nx+1) [.int .i64 i,.int .i64 x]):
  CallsT Tryz.prog F ((h.new (.defd (some []))).new (.loop .ready none tm0 29 [22,23] A B h.nx)) (fun _ g=>JO h tm0 A B q bx (ls.av cI) ls.list.reverse g) q1s [.fn (.yield (h.nx+1)) [] [],.ptr q 0]:=by
 refine x7f hP hlen (JO h tm0 A B q bx (ls.av cI)) (fun ks g hj=>hj.cl) ?_ hy
 exact⟨fun s hs _=>by simp[show¬h.nx+1=s by omega,show¬h.nx=s by omega],by simp[show¬h.nx+1=q by omega,show¬h.nx=q by omega];exact hq,⟨.nilsl,by simp[show¬h.nx+1=bx by omega,show¬h.nx=bx by omega];exact hb,.nil⟩,by simp,by simp,by simp⟩
theorem Walk.det{to:Nat→List Nat}{bg dn l bg1 dn1:List Nat}(h:Walk to bg dn l bg1 dn1):∀{bg2 dn2:List Nat},Walk to bg dn l bg2 dn2→bg1=bg2∧dn1=dn2:=by
  induction h with
  |nil=>intro _ _ k;cases k;exact⟨rfl,rfl⟩
  | old h _ ih=>
    intro _ _ k
    cases k with
    |old _ m=>exact ih m
    |new h' _ _=>exact absurd h h'
  | new h _ _ ih1 ih2=>
    intro _ _ k
    cases k with
    |old h' _=>exact absurd h' h
    | new _ m1 m2=>
      obtain⟨rfl,rfl⟩:=ih1 m1
      exact ih2 m2
theorem Walk.there{to:Nat→List Nat}{N:Nat}(hto:∀i t,t∈to i→t<N):∀(n:Nat) (bg dn l:List Nat),x5D N bg≤n→(∀t∈l,t<N)→∃bg2 dn2,Walk to bg dn l bg2 dn2:=by
  intro n
  induction n with
  | zero=>
    intro bg dn l hn hl
    induction l with
    |nil=>exact⟨bg,dn,.nil _ _⟩
    | cons b l ih=>
      have hb:b∈bg:=by
        by_cases hb:b∈bg
        ·exact hb
        ·have:=z9u hb (hl b Y0T);omega
      obtain⟨x,y,h⟩:=ih fun t ht=>hl t (Y0U _ ht)
      exact⟨x,y,.old hb h⟩
  | succ n IH=>
    intro bg dn l hn hl
    induction l with
    |nil=>exact⟨bg,dn,.nil _ _⟩
    | cons b l ih=>
      by_cases hb:b∈bg
      · obtain⟨x,y,h⟩:=ih fun t ht=>hl t (Y0U _ ht)
        exact⟨x,y,.old hb h⟩
      · have h1:=z9u hb (hl b Y0T)
        obtain⟨x,y,h⟩:=IH (b::bg) dn (to b) (by omega) fun t ht=>hto b t ht
        have h2:=x5f (N:=N) h.grows
        obtain⟨x2,y2,h'⟩:=IH x (y++[b]) l (by omega) fun t ht=>hl t (Y0U _ ht)
        exact⟨x2,y2,.new hb h h'⟩
def q0L(l:List LBlock):List Nat:=open Classical in if h:∃dn,∃bg,Walk (toN l) [] [] [0] bg dn then h.choose.reverse else []
theorem x0V{l:List LBlock}{bg dn:List Nat}(h:Walk (toN l) [] [] [0] bg dn):q0L l=dn.reverse:=by
 unfold q0L
 have hx:∃dn,∃bg,Walk (toN l) [] [] [0] bg dn:=⟨dn,bg,h⟩
 rw[dif_pos hx]
 obtain⟨bg',h'⟩:=hx.choose_spec
 rw[(h.det h').2]
theorem x3w{l:List LBlock}(hl0:0<l.length)(hto:∀b∈l,∀t∈to9 b.ed,0≤t∧t<l.length):∃bg dn,Walk (toN l) [] [] [0] bg dn∧q0L l=dn.reverse:=by
 obtain⟨bg,dn,h⟩:=Walk.there (to:=toN l) (N:=l.length) (fun i t ht=>q9i hto ht) _ [] [] [0] (Y0u _) (by intro t ht;rw[Y2d.1 ht];exact hl0)
 exact⟨bg,dn,h,x0V h⟩
set_option maxHeartbeats 2000000 in
theorem x7t(hV:Env F gl K){p:LProg}{f:Nat}{x:LFunc}(H:GateAt p f x):
  PureC Tryz.prog F z1c [.agg p.cells,.int .i64 f] (.tup [(slL (nI (q0L x.blocks.list))).av cI,.int .i64 0]):=by
 have hP:=hV.P
 have hX:=hV.X
 obtain⟨hs1,hs2,hs3⟩:=H.fn.small
 refine Y2z (O:=fun u g=>frzV 5 g u=some (.tup [(slL (nI (q0L x.blocks.list))).av cI,.int .i64 0])) (k:=5) (by simp) ?_ (fun u g e=>e)
 refine Y2y hP q0f x2E rfl rfl ?_
 have e1:=q8P hV H 0 (by omega)
 have hto:=q4d H.fn.ok
 refine zR1 z1e e1 ?_
 refine Y3y hP z7w (x1n hP hX (by omega) (by omega) hto _ 2 true (by simp) (by simp)) (by simp) rfl rfl rfl rfl (fun v g hO=> ?_)
 obtain⟨hw,bg,dn,h1,rfl,h3,h4⟩:=hO
 refine Y2X hP (by simp<;>rfl) ?_
 try dsimp only[goK]
 refine Y3y hP q8V (x2j hP (z4V _) (z3J _)) (by simp) rfl rfl rfl rfl (fun v2 g2 hO=> ?_)
 obtain⟨hw2,rfl,hn2,hg2⟩:=hO
 refine Y2X hP (by simp<;>rfl) ?_
 try dsimp only[goK]
 refine zR0 ?_
 have hbx:g2.get 1=some (.cells q0m [.nilsl]):=by
  have hgn:=hw.nx
  simp only[nx_new]at hgn
  rw[hw2.get 1 (by omega),hw.get 1 (by simp)]
  simp
 have hgn:3≤g.nx:=by have:=hw.nx;simp only[nx_new]at this;omega
 obtain⟨q,hq⟩:∃q,q=g.nx:=⟨_,rfl⟩
 rw[←hq]at hg2 hn2 hgn⊢
 obtain⟨lv,hlv⟩:∃lv,lv=(slL (nI dn)).av cI:=⟨_,rfl⟩
 rw[x0V h1]
 refine TW.rangeF hP rfl q8l fun tm0 htm=> ?_
 refine(coreB hP (tm0:=tm0) (ls:=slL (nI dn)) (q:=q) (bx:=1) (by rw[q0l];simp[nI];omega) hg2 (by omega) hbx (by omega) ?_).mono ?_
 ·rintro ks i y m ⟨hfr,hcl,⟨v,hb,hown⟩,hdd,hlp,hnx⟩ hk
  rw[q0l]at hk
  have hkl:ks.length<100:=by simp[nI]at hk;omega
  refine RoundT.intro hlp rfl (by decide) _ (x7O (x7O htm)) ?_
  refine Y2A hP (by simp<;>rfl) ?_
  dsimp only[goK]
  refine⟨rfl,none,tm0,_,_,_,_,_,Y2V (b:=m.get (g2.nx+1)) (by simp) hlp,?_⟩
  refine Y2U (fun G=>G.get 1=some (.cells q0m [v])∧(match m.get (g2.nx+1)with|some (.loop _ _ tm n ps A B d)=>G.get (g2.nx+1)=some (.loop .busy none tm n ps A B d)|_=>False)∧G.get g2.nx=some (.defd (some []))∧Own 1 q0x (g2.nx+2) G v (ks.map cI)∧G.nx=m.nx∧(∀s,s<g2.nx→G.get s=m.get s)) ?_ ?_
  ·have hs:∀o s,s≠g2.nx+1→(m.put (g2.nx+1) o).get s=m.get s:=fun o s h2=>by
    simp[show¬g2.nx+1=s by omega]
   refine⟨(hs _ _ (by omega)).trans hb,by rw[hlp];simp,(hs _ _ (by omega)).trans hdd,hown.same (by simp) fun s h1 h2=>hs _ _ (by omega),by simp,fun s h1=>hs _ _ (by omega)⟩
  ·rintro G ⟨g1,g3,g4,g5,g6,g7⟩
   rw[hlp]at g3
   dsimp only at g3
   obtain⟨v',k',happ,hown',hwb,hkn⟩:=g5.push (t:=q0m) (row:=[.int .i64 y]) (q1a (gl:=gl) (K:=K)) q1v rfl rfl (by simp;omega) (by omega)
   dsimp only[q0m,q0x]at happ g1
   refine zR0f (zc @g1 (zc @happ (zc (hwb.get _ (show 1<g2.nx+2 by omega)) (zc @hown'.cell.1 @hown'.cell.2)))) ?_
   have hlow:∀s,s<g2.nx+2→s≠1→(k'.put 1 (.cells 37 [v'])).get s=G.get s:=fun s h1 h2=>by
    rw[get_put,Y0c (by omega)];exact hwb.get s h1
   refine⟨none,tm0,29,[22,23],_,_,g2.nx,(hlow _ (by omega) (by omega)).trans g3,?_⟩
   dsimp only
   have hlow2:∀o s,s<g2.nx+2→s≠1→s≠g2.nx+1→((k'.put 1 (.cells 37 [v'])).put (g2.nx+1) o).get s=G.get s:=fun o s h1 h2 h3=>by
    rw[get_put,Y0c (by omega)];exact hlow s h1 h2
   refine⟨rfl,⟨fun s h1 h2=>(hlow2 _ s (by omega) h2 (by omega)).trans ((g7 s h1).trans (hfr s h1 h2)),(hlow2 _ q (by omega) (by omega) (by omega)).trans ((g7 q (by omega)).trans hcl),⟨v',by simp[show¬g2.nx=0 by omega],?_⟩,(hlow2 _ _ (by omega) (by omega) (by omega)).trans g4,by simp,by simp;omega⟩⟩
   have:=fun o=>hown'.same (g:=(k'.put 1 (.cells 37 [v'])).put (g2.nx+1) o) (by simp) fun s h1 h2=>by rw[get_put,Y0c (by omega),get_put,Y0c (by omega)]
   simpa using this _
 ·rintro _ m ⟨hfr,hcl,⟨v,hb,hown⟩,hdd,hlp,hnx⟩
  rw[q0l]at hown
  refine⟨.ready,none,tm0,_,_,_,_,_,hlp,nofun,?_⟩
  dsimp only[q0c,q0a]
  have hlow:∀s,s≠g2.nx+1→(m.put (g2.nx+1) .dead).get s=m.get s:=fun s h1=>by rw[get_put,Y0c (by omega)]
  have hb1:=(hlow 1 (by omega)).trans hb
  dsimp only[q0m]at hb1
  refine zR0f (zc @hb1 (zc @hown.cell.1 @hown.cell.2)) ?_
  have hfin:∀o,(((m.put (g2.nx+1) .dead).put 1 (.cells 37 [v])).put g2.nx o).get 1=some (.cells 37 [v]):=fun o=>by
   rw[get_put,Y0c (by omega),get_put,Y0e rfl]
  refine Y2u ⟨.inr rfl,((m.put (g2.nx+1) .dead).put 1 (.cells 37 [v])).put g2.nx (.defd none),[v,.int .i64 0],?_,?_,?_⟩
  ·unfold q2k
   have:((m.put (g2.nx+1) .dead).put 1 (.cells 37 [v])).get g2.nx=some (.defd (some [])):=by
    rw[get_put,Y0c (by omega)];exact(hlow _ (by omega)).trans hdd
   simp only[this,q2k]
  ·simp[resK,hfin]
  ·have h5:Own 1 q0x (g2.nx+2) (((m.put (g2.nx+1) .dead).put 1 (.cells 37 [v])).put g2.nx (.defd none)) v ((nI dn).reverse.map cI):=hown.same (Y0u _) fun s a1 a2=>by
    rw[get_put,Y0c (by omega),get_put,Y0c (by omega),get_put,Y0c (by omega)]
   have h6:=h5.slL
   have h7:(nI dn).reverse=nI dn.reverse:=by simp[nI,List.map_reverse]
   rw[h7]at h6
   simp only[q0q]
   unfold frzV
   simp only[mapO,h6]
   rfl
end Go.Ax
set_option maxRecDepth 20000
noncomputable section
namespace Go.Ax
open Go.Proofs
attribute [local irreducible] TW TO CallsT PureC
variable{F:Nat→Option Obj}{gl:Nat→AV}{K:Knob}{S S':Nat→Prop}
structure ArrOk(a lo:Nat)(h:Hp)(vs:List AV)(rows:List (List Int)):Prop where
 len:vs.length=16
 rlen:rows.length=16
 get:h.get a=some (.cells q6Q vs)
 own:∀(t:Nat) (v:AV) (l:List Int),vs[t]? =some v→rows[t]? =some l→Own 1 q0x lo h v (l.map cI)
 apart:∀(t u r o n c e:Nat) (x:Bool) (o' n' c' e':Nat) (x':Bool),vs[t]? =some (AV.sl r o n c e x)→vs[u]? =some (AV.sl r o' n' c' e' x')→t=u
 nx:lo≤h.nx
theorem z1t(vs:List AV):(vs.map fun v=>[v]).flatten=vs:=by induction vs with|nil=>rfl|cons a l ih=>simp[ih]
theorem x5u{a lo t:Nat}{h:Hp}{vs:List AV}{rows:List (List Int)}(H:ArrOk a lo h vs rows){v:AV}(hv:vs[t]? =some v):loadAt (Ctx.of Tryz.prog gl K) q0m (.ptr a t) h=some v:=by
 have hg:=H.get
 unfold loadAt
 simp[hg,q2r,hv]
theorem x5t{a lo t:Nat}{g:Hp}{vs:List AV}{rows:List (List Int)}(H:ArrOk a lo g vs rows)(halo:a<lo)(ht:t<16){v:AV}{l:List Int}(hv:vs[t]? =some v)(hl:rows[t]? =some l)(hlen:l.length<900000)(b:Int){q:Nat}(hq:g.get q=some (.cells q0x [.int .i64 b])):
  ∃v' h',q0Z (Ctx.of Tryz.prog gl K) q0m q0m v (.sl q 0 1 1 1 true) g=some (v',h')∧storeAt (Ctx.of Tryz.prog gl K) q0m (.ptr a t) v' h'.up=some (h'.up.put a (.cells q6Q (vs.set t v')))∧
   (∀m:Hp,(∀s,m.get s=(h'.put a (.cells q6Q (vs.set t v'))).get s)→m.nx=h'.nx→ArrOk a lo m (vs.set t v') (rows.set t (l++[b])))∧(∀s,s<g.nx→(∀o n c e x,v≠ .sl s o n c e x)→h'.get s=g.get s)∧g.nx≤h'.nx∧h'.get a=some (.cells q6Q vs)∧(∀r o n c e x,v'= .sl r o n c e x→r=g.nx∨∃o n c e x,v= .sl r o n c e x):=by
 have hown:=H.own t v l hv hl
 obtain⟨v',h',q1,q2,q3⟩:=Own.more (x:=.sl q 0 1 1 1 true) (k:=1) (rows':=[[.int .i64 b]]) (q1a (gl:=gl) (K:=K)) q6S hown q1v rfl rfl (by simp[q0N,hq,sub]) (fun c hc=>by rw[Y2d.1 hc];rfl) rfl (by simp;omega) H.nx
 obtain⟨f1,f2,f3⟩:=z5B q1
 have ha:h'.get a=some (.cells q6Q vs):=(q3.get a halo).trans H.get
 refine⟨v',h',q1,?_,fun m hm hn=>⟨by simp[H.len],by simp[H.rlen],by rw[hm,get_put,Y0e rfl],fun u w k hw hk=> ?_,fun t1 u1 r o n c e x o' n' c' e' x' h1 h2=> ?_,by rw[hn];have:=H.nx;omega⟩,fun s hs hsa=>f1 s hs hsa,f2,ha,f3⟩
 ·have hr:(vs.map fun v=>[v])[t]? =some [v]:=by rw[Y0R,hv];rfl
  have hst:=z4B (h:=h'.up) (C:=Ctx.of Tryz.prog gl K) (e:=q6Q) (r:=a) (rows:=vs.map fun v=>[v]) (i:=t) (row:=[v]) (es:=1) (v:=v') (by rw[z1t,q4z];exact ha) (fun c hc=>by obtain⟨_,_,rfl⟩:=Y2S.1 hc;rfl) hr q2.cell.1 q2.cell.2 (by omega) q0m (by simp[sz1])
  have hs:(vs.map fun v=>[v]).set t ([v].set 0 v')=(vs.set t v').map fun v=>[v]:=by rw[List.map_set];rfl
  rw[hs,z1t,Y2R]at hst
  exact hst
 ·have same:∀s,s≠a→m.get s=h'.get s:=fun s hs=>by rw[hm,get_put,Y0c (fun e=>hs e.symm)]
  by_cases e:u=t
  ·subst e
   rw[Y3O (by rw[H.len];exact ht)]at hw
   rw[Y3O (by rw[H.rlen];exact ht)]at hk
   cases hw;cases hk
   have hrows:(l++[b]).map cI=l.map cI++[[.int .i64 b]]:=by simp
   rw[hrows]
   exact q2.same (by omega) fun s hs _=>same s (by omega)
  ·rw[Y3P (fun h=>e h.symm)]at hw hk
   rcases H.own u w k hw hk with⟨rfl,h2⟩|⟨hne,r,h1,h2,rfl,h3⟩
   ·exact .inl ⟨rfl,h2⟩
   ·refine .inr ⟨hne,r,h1,by omega,rfl,?_⟩
    rw[same r (by omega),f1 r (by omega) fun o n c e' x hv'=>e (H.apart u t r _ _ _ _ _ o n c e' x hw (hv'▸hv))]
    exact h3
 ·have key:∀y r o n c e x,y≠t→vs[y]? =some (.sl r o n c e x)→∀o' n' c' e' x',v'≠ .sl r o' n' c' e' x':=fun y r o n c e x hy hvy o' n' c' e' x' hv'=>by
   have hrn:r<g.nx:=by
    have hyl:y<16:=by have:=(Y0m.1 hvy).1;rw[H.len]at this;exact this
    obtain⟨k,hk⟩:=q0b (show y<rows.length by rw[H.rlen];exact hyl)
    rcases H.own y _ k hvy hk with⟨h0,_⟩|⟨_,r0,_,h2,h3,_⟩
    ·cases h0
    ·cases h3;exact h2
   rcases f3 r o' n' c' e' x' hv' with e1|⟨o2,n2,c2,e2,x2,e1⟩
   ·omega
   ·exact hy (H.apart y t r _ _ _ _ _ o2 n2 c2 e2 x2 hvy (e1▸hv))
  by_cases e1:t1=t<;>by_cases e2:u1=t
  ·omega
  ·subst e1
   rw[Y3O (by rw[H.len];exact ht)]at h1
   rw[Y3P (fun h=>e2 h.symm)]at h2
   cases h1
   exact absurd rfl (key u1 r _ _ _ _ _ e2 h2 _ _ _ _ _)
  ·subst e2
   rw[Y3O (by rw[H.len];exact ht)]at h2
   rw[Y3P (fun h=>e1 h.symm)]at h1
   cases h2
   exact absurd rfl (key t1 r _ _ _ _ _ e1 h1 _ _ _ _ _)
  ·rw[Y3P (fun h=>e1 h.symm)]at h1
   rw[Y3P (fun h=>e2 h.symm)]at h2
   exact H.apart t1 u1 r _ _ _ _ _ _ _ _ _ _ h1 h2
theorem ArrOk.wid{a lo:Nat}{g m:Hp}{vs:List AV}{rows:List (List Int)}(H:ArrOk a lo g vs rows)(ha:a<g.nx)(hw:Wid g m):ArrOk a lo m vs rows:=
 ⟨H.len,H.rlen,hw.at H.get ha,fun t v l h1 h2=>(H.own t v l h1 h2).wid hw,H.apart,Y0C H.nx hw.nx⟩
theorem ArrOk.up{a lo:Nat}{g:Hp}{vs:List AV}{rows:List (List Int)}(H:ArrOk a lo g vs rows):ArrOk a lo g.up vs rows:=
 ⟨H.len,H.rlen,by rw[q4z];exact H.get,fun t v l h1 h2=>(H.own t v l h1 h2).same (by rw[z3o];exact Y0u _) fun s _ _=>q4z,H.apart,by rw[z3o];exact H.nx⟩
def q8L(l:List LBlock)(k:Nat):List (List Int):=(List.range 16).map fun t:Nat=>q1p l t k
theorem ArrOk.lit{a lo:Nat}{g:Hp}{vs:List AV}{rows:List (List Int)}(H:ArrOk a lo g vs rows)(ha:a<g.nx)(o:AObj):ArrOk a lo (g.new o).up vs rows:=(H.wid ha ((Y2M g).new o)).up
theorem z1s{l:List LBlock}{k t:Nat}(ht:t<16):(q8L l k)[t]? =some (q1p l t k):=by
 simp[q8L,ht]
theorem x6f{l:List LBlock}{k t:Nat}(ht:¬t<16):(q8L l k)[t]? =none:=by
 simp[q8L];omega
theorem z4L{l:List LBlock}{k:Nat}{y:LBlock}(hy:l[k]? =some y)(P:Nat→Bool)(hP:∀t:Nat,t<16→in27 (to9 y.ed) t=P t):q8L l (k+1)=(List.range 16).map fun t:Nat=>q1p l t k++(if P t=true then [(k:Int)]else []):=by
 unfold q8L
 apply Y1Z
 intro t ht
 rw[z2H,show toAt l k=to9 y.ed by simp[toAt,hy],hP t (Y2o.1 ht)]
theorem x0P{l:List LBlock}{k a:Nat}(ha:a<16):(q8L l k).set a (q1p l a k++[(k:Int)])=(List.range 16).map fun t:Nat=>q1p l t k++(if decide (a=t)=true then [(k:Int)]else []):=by
 refine Y2T fun t=> ?_
 by_cases ht:t<16
 ·rw[Y1I,z1s ht,Y0R,Y3Q ht]
  by_cases e:a=t
  ·subst e;simp[q8L,ha]
  ·simp[e]
 ·rw[Y1I,x6f ht,Y0R,Y1V (by simp;omega)]
  have:¬a=t:=by omega
  simp[this]
theorem rowsA_two{l:List LBlock}{k a b:Nat}(ha:a<16)(hb:b<16)(hab:a≠b):((q8L l k).set a (q1p l a k++[(k:Int)])).set b (q1p l b k++[(k:Int)])=(List.range 16).map fun t:Nat=>q1p l t k++(if(decide (a=t)||decide (b=t))=true then [(k:Int)]else []):=by
 rw[x0P ha]
 refine Y2T fun t=> ?_
 by_cases ht:t<16
 ·rw[Y1I,Y0R,Y3Q ht,Y0R,Y3Q ht]
  by_cases e:b=t
  ·subst e;simp[hb]
  ·by_cases e':a=t<;>simp[e,e']
 ·rw[Y1I,Y0R,Y1V (by simp;omega),Y0R,Y1V (by simp;omega)]
  have:¬b=t:=by omega
  simp[this]
theorem z3S{p:LProg}{x:LFunc}(h:q1b p x=true):∀b∈x.blocks.list,b.ed.kind=1∨b.ed.kind=2∨b.ed.kind=3:=by
 simp only[q1b,Y1X]at h
 intro b hb
 have h3:=Y0G.1 h.2 b hb
 simp only[q3c,Y1X]at h3
 have h5:=h3.2
 unfold q4H at h5
 split at h5
 ·exact .inl (by assumption)
 split at h5
 ·exact .inr (.inl (by assumption))
 split at h5
 ·exact .inr (.inr (by assumption))
 ·cases h5
def x7W(l:List LBlock):AV:=.agg ((List.range 16).map fun t:Nat=>(slL (q1p l t l.length)).av cI)
theorem ArrOk.frz{a lo:Nat}{h:Hp}{vs:List AV}{rows:List (List Int)}(H:ArrOk a lo h vs rows):mapO (frzV 4 h) vs=some (rows.map fun l=>(slL l).av cI):=by
  have key:∀(vs:List AV) (rows:List (List Int)),vs.length=rows.length→(∀(t:Nat) (v:AV) (l:List Int),vs[t]? =some v→rows[t]? =some l→Own 1 q0x lo h v (l.map cI))→mapO (frzV 4 h) vs=some (rows.map fun l=>(slL l).av cI):=fun vs=>by
    induction vs with
    |nil=>intro rows hl _;cases rows with|nil=>rfl|cons _ _=>simp at hl
    | cons v vs ih=>
      intro rows hl ho
      cases rows with
      |nil=>simp at hl
      | cons l rows=>
        have h1:=(ho 0 v l (by simp) (by simp)).slL
        have h2:=ih rows (by simpa using hl) fun t w k hw hk=>ho (t+1) w k (by simpa using hw) (by simpa using hk)
        simp only[mapO,h1,h2,Y1f]
  exact key vs rows (by rw[H.len,H.rlen]) H.own
theorem x8w{a lo:Nat}{h:Hp}{vs:List AV}{rows:List (List Int)}(H:ArrOk a lo h vs rows):loadAt (Ctx.of Tryz.prog gl K) q6Q (.ptr a 0) h=some (.agg vs):=by
 have hg:=H.get
 have hl:=H.len
 have ht:vs.take 16=vs:=Y2Q (by omega)
 unfold loadAt
 simp[hg,q2r,sub,hl,ht]
theorem arr_back{a lo:Nat}{h:Hp}{vs:List AV}{rows:List (List Int)}(H:ArrOk a lo h vs rows):storeAt (Ctx.of Tryz.prog gl K) q6Q (.ptr a 0) (.agg vs) h=some (h.put a (.cells q6Q vs)):=by
 have hg:=H.get
 have hl:=H.len
 have hd:vs.drop 16= []:=List.drop_eq_nil_of_le (by omega)
 have hc:vs.all q1f=true:=Y0G.2 fun v hv=>by
  obtain⟨t,ht⟩:=Y3B.1 hv
  have htl:=(Y0m.1 ht).1
  obtain⟨k,hk⟩:=q0b (show t<rows.length by rw[H.rlen];omega)
  exact(H.own t v k ht hk).cell.2
 unfold storeAt
 simp[hg,cellsOf,hl,q1h,hd,hc]
set_option maxHeartbeats 4000000 in
theorem x7i(hP:POk Tryz.prog F gl K)(hX:∀f a,K.ext f a=none)(l:Sl LBlock)(hl16:l.list.length≤16)(hto:∀b∈l.list,∀t∈to9 b.ed,0≤t∧t<l.list.length)(hkd:∀b∈l.list,b.ed.kind=1∨b.ed.kind=2∨b.ed.kind=3):
  PureC Tryz.prog F q9I [l.av LBlock.cells] (x7W l.list):=by
 refine Y2z (O:=fun u g=>frzV 5 g u=some (x7W l.list)) (k:=5) (by simp) ?_ (fun u g e=>e)
 refine Y2y hP q0f x4H rfl rfl ?_
 refine zA0 ?_
 refine Y2H (fun i:Nat=>[(2,.ptr 0 0),(5,l.av LBlock.cells),(6,.int .i64 l.list.length),(7,.int .i64 i)]) (fun i g=>i≤l.list.length∧∃vs,ArrOk 0 1 g vs (q8L l.list i)) (fun i=>l.list.length-i) (0) ?_ ?_ ?_
 focus(repeat' first|exact q0h|refine q0e (by simp) ?_)
 ·refine⟨Y0E _,List.replicate 16 .nilsl,⟨by simp,by simp[q8L],by simp,fun t v k h1 h2=> ?_,fun t u r o n c e x o' n' c' e' x' h1 h2=> ?_,by simp⟩⟩
  ·have ht:t<16:=by have:=(Y0m.1 h1).1;simpa using this
   rw[z1s ht]at h2
   rw[Y3I,Y0e ht]at h1
   cases h1;cases h2
   exact .inl ⟨rfl,rfl⟩
  ·rw[Y3I]at h1
   split at h1<;>cases h1
 rintro i g ⟨hi,vs,hA⟩
 refine zR0 ?_
 refine Y2w hP rfl (fun hc=>Y2s ?_) (fun hc=>Y2t ?_)
 ·simp at hc
  obtain⟨y,hy⟩:=q0b hc
  have hcd:=Y2G hc
  have hbv:=q0j (e:=LBlock.cells) (show 0<l.list.length by omega)
  have hgn:=hA.nx
  dsimp only[q0a]
  repeat first|refine Y2v ?_|refine Y2x ?_
  refine Y2W hP (by simp[hy,hcd,hbv]<;>rfl) ?_
  dsimp only[goK,q0a,q0c,q0d]
  obtain⟨tq,htq⟩:∃tq,tq=g.nx:=⟨_,rfl⟩
  rw[←htq]
  have hvn:∀(t:Nat) (v:AV) o n c e x,vs[t]? =some v→v≠ .sl tq o n c e x:=fun t v o n c e x hv h=>by
   have ht:t<16:=by have:=(Y0m.1 hv).1;rw[hA.len]at this;exact this
   rcases hA.own t v _ hv (z1s ht)with⟨rfl,_⟩|⟨_,r,_,h2,rfl,_⟩
   ·cases h
   ·cases h;omega
  refine Y2U (fun m=>m.get tq=some (.cells q1Q y.cells)∧ArrOk 0 1 m vs (q8L l.list i)∧tq<m.nx) ⟨by rw[htq];simp,hA.wid (by omega) (((Y2M g).new _).put (by omega) _),by rw[htq];simp⟩ fun m hm=> ?_
  obtain⟨hm1,hmA,hmn⟩:=hm
  dsimp only[q1Q,LBlock.cells,LEnd.cells]at hm1
  have hmem:=hto y (Y0N hy)
  by_cases k3:y.ed.kind=3
  ·have hrs:=z4L hy (fun _=>false) fun t _=>by simp[in27,to9,k3]
   have hrs':q8L l.list (i+1)=q8L l.list i:=by rw[hrs];simp[q8L]
   have hk:(!decide (y.ed.kind=3))=false:=by simp[k3]
   refine zA0f (zc @hm1 (zc @hk @k3)) ?_
   refine⟨i+1,by omega,trivial,?_,by omega,vs,by rw[hrs'];exact hmA⟩
   exact zLf (zc @hbv (w64s (show i<9000000000000000000 by omega)))
  ·have hk:(!decide (y.ed.kind=3))=true:=by simp[k3]
   have hk12:y.ed.kind=1∨y.ed.kind=2:=by rcases hkd y (Y0N hy)with h|h|h<;>omega
   have hmt:y.ed.to∈to9 y.ed:=by
    unfold to9
    rcases hk12 with h|h
    ·simp[h]
    ·by_cases h3:y.ed.to=y.ed.els<;>simp[h,h3]
   obtain⟨t0,t1⟩:=hmem _ hmt
   obtain⟨a,hta⟩:=Y3j t0
   have ha16:a<16:=by omega
   obtain⟨v,hv⟩:=q0b (show a<vs.length by rw[hmA.len];exact ha16)
   obtain⟨v',h',q1,q2,q3,q4,q5,q6,q7⟩:=x5t (gl:=gl) (K:=K.tell []) (hmA.lit (by omega) (.cells q0x [.int .i64 (i:Int)])) (by omega) ha16 hv (z1s ha16) (by have:=z3N (l:=l.list) (b:=a) (k:=i);omega) (i:Int) (q:=m.nx) (by rw[q4z,get_new,Y0e rfl])
   have hld:=x5u (gl:=gl) (K:=K.tell []) hmA.up hv
   have hmt':h'.get tq=m.get tq:=(q4 tq (by rw[z3o,nx_new];omega) fun o n c e x=>hvn a v o n c e x hv).trans (by rw[q4z,get_new,Y0c (by omega)])
   simp only[z3o,nx_new]at q5
   dsimp only[q0m,q0x,q6Q]at q1 q2 hld
   refine zA0f (zc @hm1 @hk) ?_
   refine TW.mono (Q:=fun e l' h' ds'=>e=Ex.normal∧(ds'= []∧(Less l' ([(2,.ptr 0 0),(3,.int .i64 i),(4,.ptr tq 0),(5,l.av LBlock.cells),(6,.int .i64 l.list.length),(7,.int .i64 i)])∧(fun m2=>m2.get tq=some (.cells q1Q y.cells)∧ArrOk 0 1 m2 (vs.set a v') ((q8L l.list i).set a (q1p l.list a i++[(i:Int)]))∧tq<m2.nx∧m.nx+1≤m2.nx∧∀(t:Nat) (w:AV) (o n c e:Nat) (x:Bool),(vs.set a v')[t]? =some w→w≠ .sl tq o n c e x) h'))) ?_ ?_
   ·have fin:∀M:Hp,M=(h'.put 0 (.cells 257 (vs.set a v'))).z→M.get tq=some (.cells q1Q y.cells)∧ArrOk 0 1 M (vs.set a v') ((q8L l.list i).set a (q1p l.list a i++[(i:Int)]))∧tq<M.nx∧m.nx+1≤M.nx∧∀(t:Nat) (w:AV) (o n c e:Nat) (x:Bool),(vs.set a v')[t]? =some w→w≠ .sl tq o n c e x:=fun M hM=>by
     have hMg:∀s,M.get s=(h'.put 0 (.cells q6Q (vs.set a v'))).get s:=fun s=>by rw[hM];rfl
     have hMn:M.nx=h'.nx:=by rw[hM];rfl
     refine⟨by rw[hMg,get_put,Y0c (by omega),hmt'];exact hm1,q3 M hMg hMn,by omega,by omega,fun t w o n c e x hw h=> ?_⟩
     by_cases et:t=a
     ·subst et
      rw[Y3O (by rw[hmA.len];exact ha16)]at hw
      cases hw
      rcases q7 _ _ _ _ _ _ h with e1|⟨_,_,_,_,_,e1⟩
      ·rw[z3o,nx_new]at e1;omega
      ·exact hvn t v _ _ _ _ _ hv e1
     ·rw[Y3P (fun h=>et h.symm)]at hw
      exact hvn t w _ _ _ _ _ hw h
    rcases hmA.own a v _ hv (z1s ha16)with⟨rfl,_⟩|⟨_,r,hr1,hr2,rfl,hr3⟩
    ·skip
     refine Y3d hP [] (fun e he=>by cases he) [0,1,3,0,8,24,56,120,0,256,1016,2047,4095] (by kernel_rfl) (by kernel_rfl) (by simp[hX,hm1,hta,Y2G ha16,hld,q1,q2, -storeAt,(show¬m.nx≤tq by omega),(show¬m.nx≤0 by omega),hmt',oneD,fpAt,fpOf,q0z,ldOf,q0V,q0n,FP.clash,FP.hard,FP.soft,overlap,inR,q0E,q1J,Nat.testBit,show¬m.nx+1≤m.nx by omega,show¬m.nx+2≤m.nx by omega,show¬m.nx+2≤m.nx+1 by omega,show¬m.nx+3≤m.nx by omega,show¬m.nx+3≤m.nx+1 by omega,show¬m.nx+3≤m.nx+2 by omega]<;>rfl) ?_
     repeat' (refine q1g (fun hb=> ?_) (fun hb=> ?_)<;>(try simp only[Y3e,Y1k,Y3f]at hb)<;>refine q3i (by simp[hb,hX,hm1,hta,Y2G ha16,hld,q1,q2, -storeAt,(show¬m.nx≤tq by omega),(show¬m.nx≤0 by omega),hmt',oneD,fpAt,fpOf,q0z,ldOf,q0V,q0n,FP.clash,FP.hard,FP.soft,overlap,inR,q0E,q1J,Nat.testBit,show¬m.nx+1≤m.nx by omega,show¬m.nx+2≤m.nx by omega,show¬m.nx+2≤m.nx+1 by omega,show¬m.nx+3≤m.nx by omega,show¬m.nx+3≤m.nx+1 by omega,show¬m.nx+3≤m.nx+2 by omega]<;>rfl) ?_)
     all_goals dsimp only[okD,q0a]
     refine⟨rfl,rfl,?_,fin _ rfl⟩
     exact zLf (zc @hta @hbv)
    ·simp only[Y1q]at q1 hld
     have hrq:r≠tq:=fun e=>hvn a _ _ _ _ _ _ hv (by rw[e])
     skip
     refine Y3d hP [] (fun e he=>by cases he) [0,1,3,0,8,24,56,120,0,256,1016,2047,4095] (by kernel_rfl) (by kernel_rfl) (by simp[hX,hm1,hta,Y2G ha16,hld,q1,q2, -storeAt,(show¬m.nx≤tq by omega),(show¬m.nx≤0 by omega),(show¬m.nx≤r by omega),hrq,(show¬tq=r from fun e=>hrq e.symm),(show¬r=0 by omega),(show¬0=r by omega),hmt',oneD,fpAt,fpOf,q0z,ldOf,q0V,q0n,FP.clash,FP.hard,FP.soft,overlap,inR,q0E,q1J,Nat.testBit,show¬m.nx+1≤m.nx by omega,show¬m.nx+2≤m.nx by omega,show¬m.nx+2≤m.nx+1 by omega,show¬m.nx+3≤m.nx by omega,show¬m.nx+3≤m.nx+1 by omega,show¬m.nx+3≤m.nx+2 by omega]<;>rfl) ?_
     repeat' (refine q1g (fun hb=> ?_) (fun hb=> ?_)<;>(try simp only[Y3e,Y1k,Y3f]at hb)<;>refine q3i (by simp[hb,hX,hm1,hta,Y2G ha16,hld,q1,q2, -storeAt,(show¬m.nx≤tq by omega),(show¬m.nx≤0 by omega),(show¬m.nx≤r by omega),hrq,(show¬tq=r from fun e=>hrq e.symm),(show¬r=0 by omega),(show¬0=r by omega),hmt',oneD,fpAt,fpOf,q0z,ldOf,q0V,q0n,FP.clash,FP.hard,FP.soft,overlap,inR,q0E,q1J,Nat.testBit,show¬m.nx+1≤m.nx by omega,show¬m.nx+2≤m.nx by omega,show¬m.nx+2≤m.nx+1 by omega,show¬m.nx+3≤m.nx by omega,show¬m.nx+3≤m.nx+1 by omega,show¬m.nx+3≤m.nx+2 by omega]<;>rfl) ?_)
     all_goals dsimp only[okD,q0a]
     refine⟨rfl,rfl,?_,fin _ rfl⟩
     exact zLf (zc @hta @hbv)
   rintro _ _ m2 _ ⟨rfl,rfl,hless,hm2,hA2,hmn2,hmm,hvn2⟩
   dsimp only[q0a]
   refine TW.less hless ?_
   clear hless hm1 q1 q2 q3 q4 q5 q6 q7 hld
   dsimp only[q1Q,LBlock.cells,LEnd.cells]at hm2
   have htoa:=hta
   by_cases k2:y.ed.kind=2∧y.ed.els≠y.ed.to
   ·obtain⟨k2,hne⟩:=k2
    have hme:y.ed.els∈to9 y.ed:=by
     unfold to9
     have h3:¬y.ed.to=y.ed.els:=fun h=>hne h.symm
     simp[k2,h3]
    obtain⟨u0,u1⟩:=hmem _ hme
    obtain⟨b,htb⟩:=Y3j u0
    have hb16:b<16:=by omega
    have hab:a≠b:=fun e=>hne (by rw[hta,htb,e])
    have hba:¬b=a:=fun e=>hab e.symm
    have hrb:((q8L l.list i).set a (q1p l.list a i++[(i:Int)]))[b]? =some (q1p l.list b i):=by rw[Y3P hab];exact z1s hb16
    obtain⟨w,hw⟩:=q0b (show b<(vs.set a v').length by rw[hA2.len];exact hb16)
    obtain⟨w',h2,q1,q2,q3,q4,q5,q6,q7⟩:=x5t (gl:=gl) (K:=K.tell []) (hA2.lit (by omega) (.cells q0x [.int .i64 (i:Int)])) (by omega) hb16 hw hrb (by have:=z3N (l:=l.list) (b:=b) (k:=i);omega) (i:Int) (q:=m2.nx) (by rw[q4z,get_new,Y0e rfl])
    have hld:=x5u (gl:=gl) (K:=K.tell []) hA2.up hw
    have hmt2:h2.get tq=m2.get tq:=(q4 tq (by rw[z3o,nx_new];omega) fun o n c e x=>hvn2 b w o n c e x hw).trans (by rw[q4z,get_new,Y0c (by omega)])
    simp only[z3o,nx_new]at q5
    dsimp only[q0m,q0x,q6Q]at q1 q2 hld
    have k2':=Y2G k2
    have hne':decide (y.ed.els=y.ed.to)=false:=Y2F hne
    have hrows:=z4L hy (fun t=>decide (a=t)||decide (b=t)) fun t _=>by
     have h3:¬y.ed.to=y.ed.els:=fun h=>hne h.symm
     have h4:((a:Int)=t)↔(a=t):=by omega
     have h5:((b:Int)=t)↔(b=t):=by omega
     simp[in27,to9,k2,h3,hta,htb,h4,h5,hab,show¬(a:Int)=b by omega]
    rw[←rowsA_two ha16 hb16 hab]at hrows
    have fin:∀M:Hp,M=(h2.put 0 (.cells 257 ((vs.set a v').set b w'))).z→∃vs,ArrOk 0 1 M vs (q8L l.list (i+1)):=fun M hM=>⟨_,by rw[hrows];exact q3 M (fun s=>by rw[hM];rfl) (by rw[hM];rfl)⟩
    refine zA0f (zc @hm2 (zc @k2' @hne')) ?_
    rcases hA2.own b w _ hw hrb with⟨rfl,_⟩|⟨_,r,hr1,hr2,rfl,hr3⟩
    ·skip
     refine Y3d hP [] (fun e he=>by cases he) [0,1,3,0,8,24,56,120,0,256,1016,2047,4095] (by kernel_rfl) (by kernel_rfl) (by simp[hX,hm2,htb,Y2G hb16,hld,q1,q2, -storeAt,(show¬m2.nx≤tq by omega),(show¬m2.nx≤0 by omega),hmt2,oneD,fpAt,fpOf,q0z,ldOf,q0V,q0n,FP.clash,FP.hard,FP.soft,overlap,inR,q0E,q1J,Nat.testBit,show¬m2.nx+1≤m2.nx by omega,show¬m2.nx+2≤m2.nx by omega,show¬m2.nx+2≤m2.nx+1 by omega,show¬m2.nx+3≤m2.nx by omega,show¬m2.nx+3≤m2.nx+1 by omega,show¬m2.nx+3≤m2.nx+2 by omega]<;>rfl) ?_
     repeat' (refine q1g (fun hb=> ?_) (fun hb=> ?_)<;>(try simp only[Y3e,Y1k,Y3f]at hb)<;>refine q3i (by simp[hb,hX,hm2,htb,Y2G hb16,hld,q1,q2, -storeAt,(show¬m2.nx≤tq by omega),(show¬m2.nx≤0 by omega),hmt2,oneD,fpAt,fpOf,q0z,ldOf,q0V,q0n,FP.clash,FP.hard,FP.soft,overlap,inR,q0E,q1J,Nat.testBit,show¬m2.nx+1≤m2.nx by omega,show¬m2.nx+2≤m2.nx by omega,show¬m2.nx+2≤m2.nx+1 by omega,show¬m2.nx+3≤m2.nx by omega,show¬m2.nx+3≤m2.nx+1 by omega,show¬m2.nx+3≤m2.nx+2 by omega]<;>rfl) ?_)
     all_goals dsimp only[okD,q0a]
     refine zA0 ?_
     refine⟨i+1,by omega,trivial,?_,by omega,fin _ rfl⟩
     exact zLf (zc @hbv (w64s (show i<9000000000000000000 by omega)))
    ·simp only[Y1q]at q1 hld
     have hrq:r≠tq:=fun e=>hvn2 b _ _ _ _ _ _ hw (by rw[e])
     skip
     refine Y3d hP [] (fun e he=>by cases he) [0,1,3,0,8,24,56,120,0,256,1016,2047,4095] (by kernel_rfl) (by kernel_rfl) (by simp[hX,hm2,htb,Y2G hb16,hld,q1,q2, -storeAt,(show¬m2.nx≤tq by omega),(show¬m2.nx≤0 by omega),(show¬m2.nx≤r by omega),hrq,(show¬tq=r from fun e=>hrq e.symm),(show¬r=0 by omega),(show¬0=r by omega),hmt2,oneD,fpAt,fpOf,q0z,ldOf,q0V,q0n,FP.clash,FP.hard,FP.soft,overlap,inR,q0E,q1J,Nat.testBit,show¬m2.nx+1≤m2.nx by omega,show¬m2.nx+2≤m2.nx by omega,show¬m2.nx+2≤m2.nx+1 by omega,show¬m2.nx+3≤m2.nx by omega,show¬m2.nx+3≤m2.nx+1 by omega,show¬m2.nx+3≤m2.nx+2 by omega]<;>rfl) ?_
     repeat' (refine q1g (fun hb=> ?_) (fun hb=> ?_)<;>(try simp only[Y3e,Y1k,Y3f]at hb)<;>refine q3i (by simp[hb,hX,hm2,htb,Y2G hb16,hld,q1,q2, -storeAt,(show¬m2.nx≤tq by omega),(show¬m2.nx≤0 by omega),(show¬m2.nx≤r by omega),hrq,(show¬tq=r from fun e=>hrq e.symm),(show¬r=0 by omega),(show¬0=r by omega),hmt2,oneD,fpAt,fpOf,q0z,ldOf,q0V,q0n,FP.clash,FP.hard,FP.soft,overlap,inR,q0E,q1J,Nat.testBit,show¬m2.nx+1≤m2.nx by omega,show¬m2.nx+2≤m2.nx by omega,show¬m2.nx+2≤m2.nx+1 by omega,show¬m2.nx+3≤m2.nx by omega,show¬m2.nx+3≤m2.nx+1 by omega,show¬m2.nx+3≤m2.nx+2 by omega]<;>rfl) ?_)
     all_goals dsimp only[okD,q0a]
     refine zA0 ?_
     refine⟨i+1,by omega,trivial,?_,by omega,fin _ rfl⟩
     exact zLf (zc @hbv (w64s (show i<9000000000000000000 by omega)))
   ·have hrows:=z4L hy (fun t=>decide (a=t)) fun t _=>by
     have h4:((a:Int)=t)↔(a=t):=by omega
     rcases hk12 with h|h
     ·simp[in27,to9,h,hta,h4]
     ·have h3:y.ed.to=y.ed.els:=by
       by_cases h3:y.ed.els=y.ed.to
       ·exact h3.symm
       ·exact absurd ⟨h,h3⟩ k2
      have h3':y.ed.els=(a:Int):=h3▸hta
      simp[in27,to9,h,hta,h3',h4]
    rw[←x0P ha16]at hrows
    by_cases h2:y.ed.kind=2
    ·have h3:y.ed.els=y.ed.to:=by
      by_cases h3:y.ed.els=y.ed.to
      ·exact h3
      ·exact absurd ⟨h2,h3⟩ k2
     refine zA0f (zc @hm2 (zc (Y2G h2) (Y2G h3))) ?_
     refine⟨i+1,by omega,trivial,?_,by omega,_,by rw[hrows];exact hA2⟩
     exact zLf (zc @hbv (w64s (show i<9000000000000000000 by omega)))
    ·refine zA0f (zc @hm2 (Y2F h2)) ?_
     refine⟨i+1,by omega,trivial,?_,by omega,_,by rw[hrows];exact hA2⟩
     exact zLf (zc @hbv (w64s (show i<9000000000000000000 by omega)))
 ·simp at hc
  obtain rfl:i=l.list.length:=by omega
  dsimp only[q0a]
  have h1:=x8w (gl:=gl) (K:=K) hA
  have h2:=arr_back (gl:=gl) (K:=K) hA
  dsimp only[q6Q]at h1 h2
  repeat' first|refine Y2v ?_|(refine Y2W hP (by simp[h1,h2, -storeAt]<;>rfl) ?_;dsimp only[goK])|simp only[q0a,q0c,q0d,↓reduceIte,Nat.reduceEqDiff,reduceCtorEq]
  have hA':ArrOk 0 1 (g.put 0 (.cells q6Q vs)) vs (q8L l.list l.list.length):=
   ⟨hA.len,hA.rlen,by rw[get_put,Y0e rfl],fun t v k a b=>(hA.own t v k a b).same (Y0u _) fun s hs _=>by rw[get_put,Y0c (by omega)],hA.apart,hA.nx⟩
  have h3:=x8w (gl:=gl) (K:=K) hA'
  dsimp only[q6Q]at h3
  refine Y2u ⟨.inr rfl,_,[.agg vs],rfl,by simp[resK,h3],?_⟩
  have hfz:=hA'.frz
  dsimp only[q0q]
  unfold frzV
  simp only[hfz]
  unfold x7W q8L
  rw[Y1D]
  rfl
end Go.Ax
