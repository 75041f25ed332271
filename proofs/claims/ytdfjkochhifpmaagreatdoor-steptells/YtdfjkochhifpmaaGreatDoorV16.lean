import Derived.Test.YtdfjkochhifpmaaGreatDoorV15
import Derived.Shelf.SortM.Plain
import Derived.Shelf.SlicesG.CompactI
import Derived.Shelf.SortM.SortNone
set_option linter.unusedSimpArgs false
set_option linter.unusedVariables false
set_option maxRecDepth 20000
noncomputable section
namespace Go.Ax
open Go.Proofs
attribute [local irreducible] TW TO CallsT PureC RoundT
variable{F:Nat→Option Obj}{gl:Nat→AV}{K:Knob}{S S':Nat→Prop}{X:Type}
theorem values1T(hP:POk Tryz.prog F gl K){h:Hp}{lp q:Nat}{ls:Sl Int}(hlen:ls.list.length<1000000)(J:List Int→Hp→Prop)(hq:h.get q=some (.cells q0m [ls.av cI]))(h0:J [] h)
  (hy:∀ks x g,J ks g→ks.length<ls.list.length→RoundT Tryz.prog F g (fun v g'=>v= .bool true∧J (ks++[x]) g') lp [.int .i64 x]):
  CallsT Tryz.prog F h (fun _ g=>J ls.list g) q0Q [.fn (.yield lp) [] [],.ptr q 0]:=by
 refine Y2y hP q0f q8W rfl rfl ?_
 refine zA0f @hq ?_
 refine Y2H (fun i:Nat=>[(0,.fn (.yield lp) [] []),(5,ls.av cI),(6,.int .i64 ls.list.length),(7,.int .i64 i)]) (fun i g=>i≤ls.list.length∧J (ls.list.take i) g) (fun i=>ls.list.length-i) (0) ?_ ?_ ?_
 focus(repeat' first|exact q0h|refine q0e (by simp) ?_)
 ·exact⟨Y0E _,h0⟩
 rintro i g ⟨hi,hJ⟩
 refine zR0 ?_
 refine Y2w hP rfl (fun hc=>Y2s ?_) (fun hc=>Y2t ?_)
 ·simp at hc
  obtain⟨x,hx⟩:=q0b hc
  have hx2:=(Y0m.1 hx).2
  have hav:=q0j (e:=cI) (show 0<ls.list.length by omega)
  dsimp only[q0a]
  refine zR0f (zc @hav (zc @hx (zc @hx2 @hc))) ?_
  refine TO.ycall hP (by simp) rfl rfl rfl (hy _ x g hJ (by simp;omega)) ?_
  rintro v g2 ⟨rfl,hJ3⟩
  refine Y2X hP (by simp<;>rfl) ?_
  try dsimp only[goK]
  refine zA0 ?_
  refine⟨i+1,by omega,trivial,?_,by omega,?_⟩
  ·exact zLf (zc @hav (w64s (show i<9000000000000000000 by omega)))
  ·rw[Y1B hc,hx2];exact hJ3
 ·simp at hc
  rw[Y2Q hc]at hJ
  dsimp only[q0a]
  refine zA0 ?_
  exact⟨.inl rfl,g,[],rfl,rfl,hJ⟩
theorem x7O{tm0:Tr AV}{l:Kn}{i:Nat}{u:AV}(htm:∀t v,kn l t=some v→tget tm0 t=v):∀t v,kn ((i,u)::l) t=some v→tget (tm0.set i u) t=v:=fun t v hk=>by
 rw[x3a]at hk
 rw[q4o]
 split at hk
 ·rename_i h;cases hk;rw[Y0e h]
 ·rename_i h;rw[Y0c h];exact htm t v hk
theorem Own.same{es:Nat}{eT:TypeId}{b:Nat}{h g:Hp}{v:AV}{rows:List (List AV)}(ho:Own es eT b h v rows)(hn:h.nx≤g.nx)(hs:∀s,b≤s→s<h.nx→g.get s=h.get s):Own es eT b g v rows:=by
 rcases ho with h1|⟨h1,r,h2,h3,h4,h5⟩
 ·exact .inl h1
 ·exact .inr ⟨h1,r,h2,by omega,h4,(hs r h2 h3).trans h5⟩
theorem Own.cell{es:Nat}{eT:TypeId}{b:Nat}{h:Hp}{v:AV}{rows:List (List AV)}(ho:Own es eT b h v rows):cellsOf v=some [v]∧q1f v=true:=by
 rcases ho with⟨rfl,_⟩|⟨_,r,_,_,rfl,_⟩<;>exact⟨rfl,rfl⟩
structure JJ(h:Hp)(tm0:Tr AV)(A B:Code)(ks:List Int)(g:Hp):Prop where
 wid:Wid h g
 box:∃v,g.get h.nx=some (.cells q0m [v])∧Own 1 3 (h.nx+3) g v (ks.map cI)
 dd:g.get (h.nx+1)=some (.defd (some []))
 lp:g.get (h.nx+2)=some (.loop .ready none tm0 13 [7] A B (h.nx+1))
 nx:h.nx+3≤g.nx
theorem coreV(hP:POk Tryz.prog F gl K){h:Hp}{q:Nat}{ls:Sl Int}{tm0:Tr AV}{A B:Code}(hlen:ls.list.length<1000000)(hq:h.get q=some (.cells q0m [ls.av cI]))(hqn:q<h.nx)
  (hy:∀ks x g,JJ h tm0 A B ks g→ks.length<ls.list.length→RoundT Tryz.prog F g (fun v g'=>v= .bool true∧JJ h tm0 A B (ks++[x]) g') (h.nx+2) [.int .i64 x]):
  CallsT Tryz.prog F (((h.new (.cells q0m [.nilsl])).new (.defd (some []))).new (.loop .ready none tm0 13 [7] A B (h.nx+1))) (fun _ g=>JJ h tm0 A B ls.list g) q0Q [.fn (.yield (h.nx+2)) [] [],.ptr q 0]:=by
 refine values1T hP hlen (JJ h tm0 A B) ?_ ?_ hy
 ·simp[show¬h.nx=q by omega,show¬h.nx+1=q by omega,show¬h.nx+2=q by omega,hq]
 ·exact⟨(((Y2M h).new _).new _).new _,⟨.nilsl,by simp[show¬h.nx+1+1=h.nx by omega],.nil⟩,by simp,by simp,by simp⟩
theorem appseqT(hP:POk Tryz.prog F gl K){h:Hp}{q:Nat}{ls:Sl Int}(hlen:ls.list.length<1000000)(hq:h.get q=some (.cells q0m [ls.av cI]))(hqn:q<h.nx):
  CallsT Tryz.prog F h (fun v g=>Wid h g∧Own 1 3 (h.nx+3) g v (ls.list.map cI)) q2E [.nilsl,.fn (.func q0Q) [] [.ptr q 0]]:=by
 refine Y2y hP q0f q8p rfl rfl ?_
 refine zR0 ?_
 refine TW.rangeF hP rfl q8U fun tm0 htm=> ?_
 refine(coreV hP (tm0:=tm0) hlen hq hqn ?_).mono ?_
 ·rintro ks x g ⟨hw,⟨v,hbx,hown⟩,hdd,hlp,hnx⟩ hk
  refine RoundT.intro hlp rfl (by decide) _ (x7O htm) ?_
  refine Y2A hP (by simp<;>rfl) ?_
  dsimp only[goK]
  refine⟨rfl,none,tm0,_,_,_,_,_,Y2V (b:=g.get (h.nx+2)) (by simp) hlp,?_⟩
  refine Y2U (fun G=>G.get h.nx=some (.cells q0m [v])∧(match g.get (h.nx+2)with|some (.loop _ _ tm n ps A B d)=>G.get (h.nx+2)=some (.loop .busy none tm n ps A B d)|_=>False)∧G.get (h.nx+1)=some (.defd (some []))∧Own 1 3 (h.nx+3) G v (ks.map cI)∧G.nx=g.nx∧(∀s,s<h.nx→G.get s=g.get s)∧Wid h G) ?_ ?_
  ·have hs:∀o s,s≠h.nx+2→(g.put (h.nx+2) o).get s=g.get s:=fun o s h2=>by
    simp[show¬h.nx+2=s by omega]
   refine⟨(hs _ _ (by omega)).trans hbx,by rw[hlp];simp,(hs _ _ (by omega)).trans hdd,hown.same (by simp) fun s h1 h2=>hs _ _ (by omega),by simp,fun s h1=>hs _ _ (by omega),⟨by simp;have:=hw.nx;omega,fun s h1=>(hs _ _ (by omega)).trans (hw.get s h1)⟩⟩
  ·rintro G ⟨g1,g3,g4,g5,g6,g7,g8⟩
   rw[hlp]at g3
   dsimp only at g3
   obtain⟨v',k',happ,hown',hwb,hkn⟩:=g5.push (t:=q0m) (row:=[.int .i64 x]) (q1a (gl:=gl) (K:=K)) q1v rfl rfl (by simp;omega) (by omega)
   dsimp only[q0m]at happ
   refine zR0f (zc @g1 (zc @happ (zc (hwb.get _ (show h.nx<h.nx+3 by omega)) (zc @hown'.cell.1 @hown'.cell.2)))) ?_
   have hlow:∀s,s<h.nx+3→s≠h.nx→(k'.put h.nx (.cells q0m [v'])).get s=G.get s:=fun s h1 h2=>by
    rw[get_put,Y0c (by omega)];exact hwb.get s h1
   refine⟨none,tm0,13,[7],_,_,h.nx+1,(hlow _ (by omega) (by omega)).trans g3,?_⟩
   dsimp only
   have hlow2:∀o s,s<h.nx+3→s≠h.nx→s≠h.nx+2→((k'.put h.nx (.cells q0m [v'])).put (h.nx+2) o).get s=G.get s:=fun o s h1 h2 h3=>by
    rw[get_put,Y0c (by omega)];exact hlow s h1 h2
   refine⟨rfl,⟨⟨by simp;have:=g8.nx;omega,fun s h1=>(hlow2 _ s (by omega) (by omega) (by omega)).trans (g8.get s h1)⟩,⟨v',by simp[show¬h.nx+2=h.nx by omega],?_⟩,(hlow2 _ _ (by omega) (by omega) (by omega)).trans g4,by simp,by simp;omega⟩⟩
   have:=fun o=>hown'.same (g:=(k'.put h.nx (.cells q0m [v'])).put (h.nx+2) o) (by simp) fun s h1 h2=>by rw[get_put,Y0c (by omega),get_put,Y0c (by omega)]
   simpa using this _
 ·rintro _ g ⟨hw,⟨v,hbx,hown⟩,hdd,hlp,hnx⟩
  simp only[nx_put,nx_new]
  refine⟨.ready,none,tm0,_,_,_,_,_,hlp,nofun,?_⟩
  dsimp only[q0c,q0a]
  have hlow:∀s,s≠h.nx+2→(g.put (h.nx+2) .dead).get s=g.get s:=fun s h1=>by rw[get_put,Y0c (by omega)]
  refine zR0f (zc @hlow @hbx) ?_
  refine Y2u ⟨.inr rfl,(g.put (h.nx+2) .dead).put (h.nx+1) (.defd none),_,?_,rfl,?_,?_⟩
  ·unfold q2k
   have:(g.put (h.nx+2) .dead).get (h.nx+1)=some (.defd (some [])):=(hlow _ (by omega)).trans hdd
   simp only[nx_new,this,q2k]
  ·exact(hw.put (by omega) _).put (by omega) _
  ·exact hown.same (by simp) fun s h1 h2=>by rw[get_put,Y0c (by omega)];exact hlow s (by omega)
theorem collectT(hP:POk Tryz.prog F gl K){h:Hp}{q:Nat}{ls:Sl Int}(hlen:ls.list.length<1000000)(hq:h.get q=some (.cells q0m [ls.av cI]))(hqn:q<h.nx):
  CallsT Tryz.prog F h (fun v g=>Wid h g∧Own 1 3 (h.nx+3) g v (ls.list.map cI)) q4J [.fn (.func q0Q) [] [.ptr q 0]]:=by
 refine Y2y hP q0f z1R rfl rfl ?_
 refine zR0 ?_
 refine Y3y hP q8o (appseqT hP hlen hq hqn) (by simp) rfl rfl rfl rfl (fun v g hg=> ?_)
 refine Y2X hP (by simp<;>rfl) ?_
 try dsimp only[goK]
 refine zA0 ?_
 exact hg
theorem x5L(hP:POk Tryz.prog F gl K){h:Hp}{v:AV}(hv:cellsOf v=some [v])(hc:q1f v=true):
  CallsT Tryz.prog F h (fun u g=>Wid h g∧u= .fn (.func q0Q) [] [.ptr h.nx 0]∧g.nx=h.nx+1∧g.get h.nx=some (.cells q0m [v])) q3z [v]:=by
 refine Y2y hP q0f q9V rfl rfl ?_
 refine zA0f (zc @hv @hc) ?_
 exact⟨(Y2M h).new _,trivial,by simp,by simp⟩
end Go.Ax
noncomputable section
namespace Go.Ax
open Go.Proofs Go.Shelf
def x5Y:Go.Shelf.Ren:=⟨fun|5=>73|8=>115|7=>114|19=>168|20=>169|10=>159|11=>160|12=>161|13=>162|14=>163|15=>164|16=>165|17=>166|18=>167|30=>194|31=>195|32=>196|33=>197|34=>198|35=>199|40=>210|n=>n,fun|23=>37|25=>3|3=>3|32=>163|22=>37|0=>0|44=>216|46=>218|4=>4|36=>210|35=>209|41=>145|5=>5|9=>9|53=>241|57=>245|63=>255|64=>118|n=>n,fun|n=>n⟩
theorem sortLs:Go.Proofs.SlLaysM.n5 Tryz.prog x5Y:={mixed:=by kernel_rfl,f5:=⟨ "slices.Sort[[]int,int]",by decide,Tryz.func73.trans (Y1K some (by kernel_rfl))⟩,f7:=⟨ "slices.pdqsortOrdered[int]",by decide,Tryz.func114.trans (Y1K some (by kernel_rfl))⟩,f8:=Tryz.func115.trans (Y1K some (by kernel_rfl)),f10:=⟨ "slices.insertionSortOrdered[int]",by decide,Tryz.func159.trans (Y1K some (by kernel_rfl))⟩,f11:=⟨ "slices.heapSortOrdered[int]",by decide,Tryz.func160.trans (Y1K some (by kernel_rfl))⟩,f12:=⟨ "slices.breakPatternsOrdered[int]",by decide,Tryz.func161.trans (Y1K some (by kernel_rfl))⟩,f13:=⟨ "slices.choosePivotOrdered[int]",by decide,Tryz.func162.trans (Y1K some (by kernel_rfl))⟩,f14:=⟨ "slices.reverseRangeOrdered[int]",by decide,Tryz.func163.trans (Y1K some (by kernel_rfl))⟩,f15:=⟨ "slices.partialInsertionSortOrdered[int]",by decide,Tryz.func164.trans (Y1K some (by kernel_rfl))⟩,f16:=⟨ "cmp.Less[int]",by decide,Tryz.func165.trans (Y1K some (by kernel_rfl))⟩,f17:=⟨ "slices.partitionEqualOrdered[int]",by decide,Tryz.func166.trans (Y1K some (by kernel_rfl))⟩,f18:=⟨ "slices.partitionOrdered[int]",by decide,Tryz.func167.trans (Y1K some (by kernel_rfl))⟩,f19:=Tryz.func168.trans (Y1K some (by kernel_rfl)),f20:=Tryz.func169.trans (Y1K some (by kernel_rfl)),f30:=⟨ "slices.siftDownOrdered[int]",by decide,Tryz.func194.trans (Y1K some (by kernel_rfl))⟩,f31:=Tryz.func195.trans (Y1K some (by kernel_rfl)),f32:=Tryz.func196.trans (Y1K some (by kernel_rfl)),f33:=⟨ "slices.medianAdjacentOrdered[int]",by decide,Tryz.func197.trans (Y1K some (by kernel_rfl))⟩,f34:=⟨ "slices.medianOrdered[int]",by decide,Tryz.func198.trans (Y1K some (by kernel_rfl))⟩,f35:=⟨ "cmp.isNaN[int]",by decide,Tryz.func199.trans (Y1K some (by kernel_rfl))⟩,f40:=⟨ "slices.order2Ordered[int]",by decide,Tryz.func210.trans (Y1K some (by kernel_rfl))⟩,t0:=Tryz.underlying0,a0:=Tryz.isAgg0,z0:=Tryz.sizeOf0,v0:=Tryz.zeroValue0,t3:=Tryz.underlying3,a3:=Tryz.isAgg3,z3:=Tryz.sizeOf3,v3:=Tryz.zeroValue3,t4:=Tryz.underlying4,a4:=Tryz.isAgg4,z4:=Tryz.sizeOf4,v4:=Tryz.zeroValue4,t5:=Tryz.underlying5,a5:=Tryz.isAgg5,z5:=Tryz.sizeOf5,v5:=Tryz.zeroValue5,t9:=Tryz.underlying9,a9:=Tryz.isAgg9,z9:=Tryz.sizeOf9,v9:=Tryz.zeroValue9,t22:=Tryz.underlying37,a22:=Tryz.isAgg37,z22:=Tryz.sizeOf37,v22:=Tryz.zeroValue37,t23:=Tryz.underlying37,a23:=Tryz.isAgg37,z23:=Tryz.sizeOf37,v23:=Tryz.zeroValue37,t25:=Tryz.underlying3,a25:=Tryz.isAgg3,z25:=Tryz.sizeOf3,v25:=Tryz.zeroValue3,t32:=Tryz.underlying163,a32:=Tryz.isAgg163,z32:=Tryz.sizeOf163,v32:=Tryz.zeroValue163,t35:=Tryz.underlying209,a35:=Tryz.isAgg209,z35:=Tryz.sizeOf209,v35:=Tryz.zeroValue209,t36:=Tryz.underlying210,a36:=Tryz.isAgg210,z36:=Tryz.sizeOf210,v36:=Tryz.zeroValue210,t41:=Tryz.underlying145,a41:=Tryz.isAgg145,z41:=Tryz.sizeOf145,v41:=Tryz.zeroValue145,t44:=Tryz.underlying216,a44:=Tryz.isAgg216,z44:=Tryz.sizeOf216,v44:=Tryz.zeroValue216,t46:=Tryz.underlying218,a46:=Tryz.isAgg218,z46:=Tryz.sizeOf218,v46:=Tryz.zeroValue218,t53:=Tryz.underlying241,a53:=Tryz.isAgg241,z53:=Tryz.sizeOf241,v53:=Tryz.zeroValue241,t57:=Tryz.underlying245,a57:=Tryz.isAgg245,z57:=Tryz.sizeOf245,v57:=Tryz.zeroValue245,t63:=Tryz.underlying255,a63:=Tryz.isAgg255,z63:=Tryz.sizeOf255,v63:=Tryz.zeroValue255,t64:=Tryz.underlying118,a64:=Tryz.isAgg118,z64:=Tryz.sizeOf118,v64:=Tryz.zeroValue118}
def x6V:Go.Shelf.Ren:=⟨fun|43=>203|n=>n,fun|22=>37|23=>3|3=>3|4=>4|0=>0|n=>n,fun|n=>n⟩
theorem compLs:Go.Proofs.SlLaysN.n43 Tryz.prog x6V:={mixed:=by kernel_rfl,f43:=⟨ "slices.Compact[[]int,int]",by decide,Tryz.func203.trans (Y1K some (by kernel_rfl))⟩,t0:=Tryz.underlying0,a0:=Tryz.isAgg0,z0:=Tryz.sizeOf0,v0:=Tryz.zeroValue0,t3:=Tryz.underlying3,a3:=Tryz.isAgg3,z3:=Tryz.sizeOf3,v3:=Tryz.zeroValue3,t4:=Tryz.underlying4,a4:=Tryz.isAgg4,z4:=Tryz.sizeOf4,v4:=Tryz.zeroValue4,t22:=Tryz.underlying37,a22:=Tryz.isAgg37,z22:=Tryz.sizeOf37,v22:=Tryz.zeroValue37,t23:=Tryz.underlying3,a23:=Tryz.isAgg3,z23:=Tryz.sizeOf3,v23:=Tryz.zeroValue3,i23:=by kernel_rfl}
end Go.Ax
noncomputable section
namespace Go.Ax
open Go.Proofs Go.Shelf Go.Sort Go.RowKit
variable{P:Program}{F:Nat→Option Obj}{ρ:Go.Shelf.Ren}
abbrev z8T(l:List Int):List Int:=l.mergeSort fun x y=>decide (x≤y)
theorem x0L(l:List Int):(z8T l).length=l.length:=List.length_mergeSort _
theorem x3U(l:List Int):(Lib.compact l).length≤l.length:=by
 unfold Lib.compact Lib.compactUpTo
 rw[Y1q]
 have:=Y3G (Lib.keeps l.toArray) (List.range l.length)
 rwa [Y3H]at this
theorem sort_mem(LM:SlLaysM.n5 P ρ){h:Hp}{r c:Nat}{x:Bool}{eT:TypeId}{l:List Int}(hr:h.get r=some (.cells eT (l.map (.int .i64))))(hl:l.length<4611686018427387904):
  CallsT P F h (fun v g=>v= .tup []∧g=h.put r (.cells eT ((z8T l).map (.int .i64)))) (ρ.f 5) [.sl r 0 l.length c 1 x]:=by
 intro m w N cargs hR hA hF
 obtain⟨cx,csl,e1,e2,e3⟩:=hA.cases_cons
 cases e3.cases_nil
 obtain⟨b,z,ccap,hm,rfl,h1,h2,h3,h4⟩:=e2.sl_inv
 obtain rfl:cargs= #[.slice (some ⟨b,0,none⟩) l.length ccap]:=Y1P e1
 obtain⟨arr,o1,o2,o3,o4⟩:=hR.obj r _ b z hr hm
 have hlt:=hR.lt hr rfl hm
 have o3':l.length≤z:=by simpa using o3
 have hH:Holds (Value.int .i64) w b 0 l.toArray:=by
  intro j hj
  rw[List.size_toArray]at hj
  refine⟨?_,?_⟩
  ·simp only[World.cell?,o1,Y0L]
   have hy:arr[j]? =some arr[j]! :=by
    rw[Y0Z arr j (by omega)];exact Y0M _
   have hx:(l.map (AV.int .i64))[j]? =some (.int .i64 l[j]!):=by
    rw[Y0R,Y0n hj,Y0Z l j hj];rfl
   have:=(o4 j _ _ hx hy).int_inv
   rw[hy,this]
   simp
  ·simp[World.frozen?,o1]
 have hcall:=AnyM.slices_Sort_int LM b 0 ccap l w hH hlt hl
 refine(callsIn_wide.2 hcall).mono fun e' w' he=> ?_
 obtain⟨rfl,q,os,rfl⟩:=he
 generalize hss:(l.mergeSort fun x y=>decide (x≤y))=ss
 have hsl:ss.length=l.length:=by rw[←hss];exact List.length_mergeSort _
 have hat:(putRow (Value.int .i64) (Sort.ahead w q) b 0 ss.toArray).heap[b]? =some (.cells (arr.mapIdx fun k x=>if 0≤k∧k<0+ss.toArray.size then Value.int .i64 ss.toArray[k-0]! else x) eT (0,0)):=by
  simp only[putRow,mapBlock,Sort.ahead,Y1J,o1]
  rfl
 have s1:Step P F m h (h.put r (.cells eT (ss.map (.int .i64)))) w (putRow (Value.int .i64) (Sort.ahead w q) b 0 ss.toArray) m:=by
  refine Step.put hR hr rfl hm hat (fun c hc=> ?_) ?_ ⟨rfl,rfl,rfl⟩ ⟨_,rfl,?_,?_,?_⟩
  ·simp only[putRow,mapBlock,Sort.ahead,Y1J]
   rw[Y0c (fun e=>hc e.symm)]
  ·simp only[putRow,mapBlock,Sort.ahead,Array.size_modify]
  ·simpa using o2
  ·rw[Y1q];omega
  ·intro i x y hx hy
   rw[Array.getElem?_mapIdx]at hy
   obtain⟨a,ha,rfl⟩:=Y0S.1 hy
   rw[Y0R]at hx
   obtain⟨n,hn,rfl⟩:=Y0S.1 hx
   have hi:=(Y0m.1 hn).1
   rw[Y0e ⟨Y0E _,by simpa using hi⟩,Y1H]
   have:ss.toArray[i]! =n:=by
    rw[Y0Z ss.toArray i (by simpa using hi)]
    simpa using (Y0m.1 hn).2
   rw[this]
   exact .int _ _
 refine⟨_,_,⟨rfl,rfl⟩,Y1L hr _,_,m,rfl,?_,.tup (by simp) (by simp)⟩
 rw[show(z8T l)=ss from hss]
 refine s1.trans (Step.grow s1.rel ?_ (fun c hc=> ?_) ⟨rfl,rfl,rfl⟩)
 ·simp only[grow,Array.size_append];omega
 ·simp only[grow]
  exact Y1E hc
theorem sort_nil(LM:SlLaysM.n5 P ρ){h:Hp}:CallsT P F h (fun v g=>v= .tup []∧g=h) (ρ.f 5) [.nilsl]:=by
 intro m w N cargs hR hA hF
 obtain⟨cx,csl,e1,e2,e3⟩:=hA.cases_cons
 cases e3.cases_nil
 cases e2
 obtain rfl:cargs= #[.slice none 0 0]:=Y1P e1
 refine(callsIn_wide.2 (AnyM.slices_Sort_int_none LM none 0 w)).mono fun e' w' he=> ?_
 obtain⟨rfl,rfl⟩:=he
 exact⟨_,_,⟨rfl,rfl⟩,.refl _,_,m,rfl,Y0t hR rfl (Y0r _),.tup (by simp) (by simp)⟩
theorem CallsT.frz{h:Hp}{O O':AV→Hp→Prop}{f:FuncId}{args:List AV}(hc:CallsT P F h O f args)(hO:∀v g,O v g→∃(S:Nat→Prop) (k:Nat) (v':AV),frzV k (g.only S) v=some v'∧O' v' (g.wo S)):CallsT P F h O' f args:=by
 intro m w N cargs hR hA hF
 refine(hc m w N cargs hR hA hF).mono fun e w' ⟨v,g,ho,hle,cv,m',he,hst,hv⟩=> ?_
 obtain⟨S,k,v',h1,h2⟩:=hO v g ho
 obtain⟨m2,hs2,hv2⟩:=Step.freeze S hst.rel
 exact⟨v',_,h2,hle.trans (wo_le S),cv,m2,he,hst.trans hs2,hv2 _ _ _ _ hv h1⟩
theorem x3T(LC:SlLaysN.n43 P ρ){h:Hp}{r c:Nat}{x:Bool}{eT:TypeId}{l:List Int}(hr:h.get r=some (.cells eT (l.map (.int .i64))))(hl:l.length<4611686018427387904)(hcl:l.length≤c):
  CallsT P F h (fun v g=>v= .sl r 0 (Lib.compact l).length c 1 x∧g=h.put r (.cells eT ((Lib.compact l++List.replicate (l.length-(Lib.compact l).length) 0).map (.int .i64)))) (ρ.f 43) [.sl r 0 l.length c 1 x]:=by
 intro m w N cargs hR hA hF
 obtain⟨cx,csl,e1,e2,e3⟩:=hA.cases_cons
 cases e3.cases_nil
 obtain⟨b,z,ccap,hm,rfl,h1,h2,h3,h4⟩:=e2.sl_inv
 obtain rfl:cargs= #[.slice (some ⟨b,0,none⟩) l.length ccap]:=Y1P e1
 obtain⟨arr,o1,o2,o3,o4⟩:=hR.obj r _ b z hr hm
 have hlt:=hR.lt hr rfl hm
 have o3':l.length≤z:=by simpa using o3
 have hH:Holds (Value.int .i64) w b 0 l.toArray:=by
  intro j hj
  rw[List.size_toArray]at hj
  refine⟨?_,?_⟩
  ·simp only[World.cell?,o1,Y0L]
   have hy:arr[j]? =some arr[j]! :=by
    rw[Y0Z arr j (by omega)];exact Y0M _
   have hx:(l.map (AV.int .i64))[j]? =some (.int .i64 l[j]!):=by
    rw[Y0R,Y0n hj,Y0Z l j hj];rfl
   have:=(o4 j _ _ hx hy).int_inv
   rw[hy,this]
   simp
  ·simp[World.frozen?,o1]
 have hcall:=AnyG.slices_Compact_int LC b 0 ccap l w hH (by omega) (by omega)
 refine(callsIn_wide.2 hcall).mono fun e' w' he=> ?_
 obtain⟨rfl,q,rfl⟩:=he
 have hcz:=x3U l
 generalize hss:Lib.compact l++List.replicate (l.length-(Lib.compact l).length) 0=ss
 have hsl:ss.length=l.length:=by rw[←hss];simp;omega
 have hat:(putRow (Value.int .i64) (Sort.ahead w q) b 0 ss.toArray).heap[b]? =some (.cells (arr.mapIdx fun k x=>if 0≤k∧k<0+ss.toArray.size then Value.int .i64 ss.toArray[k-0]! else x) eT (0,0)):=by
  simp only[putRow,mapBlock,Sort.ahead,Y1J,o1]
  rfl
 have s1:Step P F m h (h.put r (.cells eT (ss.map (.int .i64)))) w (putRow (Value.int .i64) (Sort.ahead w q) b 0 ss.toArray) m:=by
  refine Step.put hR hr rfl hm hat (fun c hc=> ?_) ?_ ⟨rfl,rfl,rfl⟩ ⟨_,rfl,?_,?_,?_⟩
  ·simp only[putRow,mapBlock,Sort.ahead,Y1J]
   rw[Y0c (fun e=>hc e.symm)]
  ·simp only[putRow,mapBlock,Sort.ahead,Array.size_modify]
  ·simpa using o2
  ·rw[Y1q];omega
  ·intro i x y hx hy
   rw[Array.getElem?_mapIdx]at hy
   obtain⟨a,ha,rfl⟩:=Y0S.1 hy
   rw[Y0R]at hx
   obtain⟨n,hn,rfl⟩:=Y0S.1 hx
   have hi:=(Y0m.1 hn).1
   rw[Y0e ⟨Y0E _,by simpa using hi⟩,Y1H]
   have:ss.toArray[i]! =n:=by
    rw[Y0Z ss.toArray i (by simpa using hi)]
    simpa using (Y0m.1 hn).2
   rw[this]
   exact .int _ _
 exact⟨_,_,⟨rfl,rfl⟩,Y1L hr _,_,m,rfl,s1,.sl hm (by omega) h2 h3 h4⟩
theorem x1I(l:List Int):(z8T l).Pairwise (·≤·):=by
 have:=List.pairwise_mergeSort (le:=fun x y:Int=>decide (x≤y)) (fun a b c h1 h2=>by simp at*;omega) (fun a b=>by simp;omega) l
 exact this.imp fun h=>by simpa using h
end Go.Ax
set_option maxRecDepth 20000
noncomputable section
namespace Go.Ax
open Go.Proofs
attribute [local irreducible] TW TO CallsT PureC RoundT
variable{F:Nat→Option Obj}{gl:Nat→AV}{K:Knob}{S S':Nat→Prop}{X:Type}
theorem z9g:∀l:List Int,(l.map cI).flatten=l.map (.int .i64)
 |[]=>rfl
 |a::l=>by simp[z9g l]
theorem Sort_own{g:Hp}{b:Nat}{v:AV}{l:List Int}(H:Own 1 3 b g v (l.map cI))(hl:l.length<1000000):
  CallsT Tryz.prog F g (fun u g'=>u= .tup []∧Own 1 3 b g' v ((z8T l).map cI)∧g'.nx=g.nx∧∀s,s<b→g'.get s=g.get s) q6U [v]:=by
 rcases H with⟨rfl,h⟩|⟨hn,r,h1,h2,rfl,h3⟩
 ·have:l= []:=by simpa using h
  subst this
  exact(sort_nil (F:=F) (h:=g) sortLs).mono fun u g' ⟨h1,h2⟩=>by subst h2;exact⟨h1,.inl ⟨rfl,by simp⟩,rfl,fun _ _=>rfl⟩
 ·rw[z9g]at h3
  rw[Y1q]
  refine(sort_mem (F:=F) (h:=g) (c:=l.length) (x:=false) sortLs h3 (by omega)).mono fun u g' ⟨q1,q2⟩=> ?_
  subst q2
  refine⟨q1,.inr ⟨?_,r,h1,by rw[nx_put];exact h2,by rw[Y1q,x0L],by rw[get_put,Y0e rfl,z9g]⟩,by rw[nx_put],fun s hs=>by rw[get_put,Y0c (by omega)]⟩
  intro e
  have e:=Y1K List.length e
  rw[Y1q,x0L]at e
  exact hn (Y1y (by simpa using e))
theorem x5X(hP:POk Tryz.prog F gl K){h:Hp}{q:Nat}{ls:Sl Int}(hlen:ls.list.length<1000000)(hq:h.get q=some (.cells q0m [ls.av cI]))(hqn:q<h.nx):
  CallsT Tryz.prog F h (fun v g=>Wid h g∧Own 1 3 h.nx g v ((z8T ls.list).map cI)) q5e [.fn (.func q0Q) [] [.ptr q 0]]:=by
 refine Y2y hP q0f z2X rfl rfl ?_
 refine zR0 ?_
 refine Y3y hP z1M (collectT hP hlen hq hqn) (by simp) rfl rfl rfl rfl (fun v g ⟨hw,hown⟩=> ?_)
 refine Y2X hP (by simp<;>rfl) ?_
 try dsimp only[goK]
 refine zR0 ?_
 refine Y3y hP z1j (Sort_own (b:=h.nx) (hown.mono (by omega)) (by omega)) (by simp) rfl rfl rfl rfl (fun u g2 ⟨hu,hown2,hn,hs⟩=> ?_)
 refine Y2X hP (by simp<;>rfl) ?_
 try dsimp only[goK]
 refine zA0 ?_
 exact⟨⟨by have:=hw.nx;omega,fun s hs'=>(hs s hs').trans (hw.get s hs')⟩,hown2⟩
theorem z5z:∀(l:List Int) (t:List AV),chunks 1 l.length (l.map (AV.int .i64)++t)=l.map fun n=>[AV.int .i64 n]
  |[],_=>rfl
  | a::l,t=>by
    show(List.map (AV.int .i64) (a::l)++t).take 1::chunks 1 l.length ((List.map (AV.int .i64) (a::l)++t).drop 1)=_
    simp[z5z l]
end Go.Ax
set_option maxRecDepth 20000
noncomputable section
namespace Go.Ax
open Go.Proofs
attribute [local irreducible] TW TO CallsT PureC
variable{F:Nat→Option Obj}{gl:Nat→AV}{K:Knob}{S S':Nat→Prop}{X:Type}
theorem z8S(hP:POk Tryz.prog F gl K)(hX:∀f a,K.ext f a=none)(a b:Sl Int)(hlen:a.list.length<1000000):PureC Tryz.prog F q3L [a.av cI,b.av cI] (.bool (q6N a.list b.list)):=by
 refine zP z0q ?_
 by_cases hl:a.list.length=b.list.length
 ·refine zA0f @hl ?_
  refine Y2H (fun i:Nat=>[(0,a.av cI),(1,b.av cI),(4,.bool false),(12,.int .i64 a.list.length),(13,.int .i64 i)]) (fun i _=>i≤a.list.length∧a.list.take i=b.list.take i) (fun i=>a.list.length-i) (0) ?_ ?_ ?_
  focus(repeat' first|exact q0h|refine q0e (by simp[hl]) ?_)
  ·simp
  rintro i g ⟨hi,hall⟩
  refine zR0 ?_
  refine Y2w hP rfl (fun hc=>Y2s ?_) (fun hc=>Y2t ?_)
  ·simp at hc
   obtain⟨x,hx⟩:=q0b hc
   obtain⟨y,hy⟩:=q0b (show i<b.list.length by omega)
   have hav:=q0j (e:=cI) (show 0<a.list.length by omega)
   have hbv:=q0j (e:=cI) (show 0<b.list.length by omega)
   dsimp only[q0a]
   refine zR0 ?_
   refine zEf (zc @hx (zc @hy (zc @hav @hbv))) t0 ?_
   repeat' first|refine zA0 ?_|(refine Y2w hP rfl (fun hc=> ?_) (fun hc=> ?_)<;>simp at hc)
   ·simp[q6N]
    intro e
    rw[e,hy]at hx
    exact hc (Y1Y hx).symm
   ·refine⟨i+1,by omega,trivial,?_,by omega,z0P hx hy hall hc⟩
    exact zLf (zc @hav (zc @hbv (w64s (show i<9000000000000000000 by omega))))
  ·simp at hc
   dsimp only[q0a]
   refine zA0 ?_
   rw[Y2Q hc,Y2Q (by omega)]at hall
   simp[q6N,hall]
 ·repeat' first|refine zA0f @hl ?_|(refine Y2w hP rfl (fun hc=> ?_) (fun hc=> ?_)<;>simp at hc)
  ·simp[q6N];intro e;exact hl (by rw[e])
  ·exfalso;omega
end Go.Ax
namespace Go.Ax
inductive Anc(nx:Nat→Nat):Nat→Nat→Prop
 |refl (b:Nat):Anc nx b b
 |up {b r:Nat} (h:Anc nx (nx b) r):Anc nx b r
theorem Anc.trans{nx:Nat→Nat}{a b c:Nat}(h:Anc nx a b)(k:Anc nx b c):Anc nx a c:=by
 induction h with
 |refl=>exact k
 |up _ ih=>exact .up (ih k)
theorem Anc.root{nx:Nat→Nat}(h0:nx 0=0){b r:Nat}(h:Anc nx b r)(hb:b=0):r=0:=by
 induction h with
 |refl=>exact hb
 |up _ ih=>subst hb;exact ih h0
inductive Way(E:Nat→Nat→Prop):List Nat→Nat→Prop
 |start:Way E [0] 0
 |step {l:List Nat} {a b:Nat} (h:Way E l a) (e:E a b):Way E (b::l) b
theorem Way.head{E:Nat→Nat→Prop}{l:List Nat}{b:Nat}(h:Way E l b):b∈l:=by
 cases h<;>simp
def RulesW(E:Nat→Nat→Prop)(r b:Nat):Prop:=∀l,Way E l b→r∈l
theorem fix_sound{nx:Nat→Nat}{E:Nat→Nat→Prop}(h0:nx 0=0)(h:∀a b l,b≠0→Way E l a→E a b→Anc nx a (nx b)):∀{l:List Nat} {b:Nat},Way E l b→∀r,Anc nx b r→r∈l:=by
  intro l b hw
  induction hw with
  |start=>intro r hr;rw[hr.root h0 rfl];simp
  | @step l a b hw e ih=>
    intro r hr
    by_cases hb:b=0
    ·rw[hr.root h0 hb,hb];simp
    · cases hr with
      |refl=>simp
      |up hr=>exact Y0U _ (ih r ((h a b l hb hw e).trans hr))
inductive Meet(nx ord:Nat→Nat):Nat→Nat→Nat→Prop
 |same (a:Nat):Meet nx ord a a a
 |left {a b c:Nat} (h:ord b<ord a) (k:Meet nx ord (nx a) b c):Meet nx ord a b c
 |right {a b c:Nat} (h:ord a<ord b) (k:Meet nx ord a (nx b) c):Meet nx ord a b c
theorem Anc.ord{nx ord:Nat→Nat}(hd:∀b,ord (nx b)≤ord b){a r:Nat}(h:Anc nx a r):ord r≤ord a:=by
 induction h with
 |refl=>exact Y0u _
 |up _ ih=>exact Y0C ih (hd _)
theorem Meet.spec{nx ord:Nat→Nat}(hd:∀b,ord (nx b)≤ord b){a b c:Nat}(h:Meet nx ord a b c):Anc nx a c∧Anc nx b c∧∀r,Anc nx a r→Anc nx b r→Anc nx c r:=by
  induction h with
  |same a=>exact⟨.refl _,.refl _,fun r h _=>h⟩
  | left hlt _ ih=>
    refine⟨.up ih.1,ih.2.1,fun r h1 h2=>ih.2.2 r ?_ h2⟩
    cases h1 with
    |refl=>have:=h2.ord hd;omega
    |up h1=>exact h1
  | right hlt _ ih=>
    refine⟨ih.1,.up ih.2.1,fun r h1 h2=>ih.2.2 r h1 ?_⟩
    cases h2 with
    |refl=>have:=h1.ord hd;omega
    |up h2=>exact h2
theorem Meet.there{nx ord:Nat→Nat}(hd:∀b,b≠0→ord (nx b)<ord b)(h0:ord 0=0):∀(k a b:Nat),ord a+ord b≤k→(ord a=ord b→a=b)→(∀x y,Anc nx a x→Anc nx b y→ord x=ord y→x=y)→∃c,Meet nx ord a b c
  | k, a,b,hk,he,hall=>by
    rcases Nat.lt_trichotomy (ord a) (ord b)with h|h|h
    · have hb:b≠0:=fun e=>by rw[e,h0]at h;omega
      have hlt:=hd b hb
      cases k with
      |zero=>omega
      | succ k=>
        obtain⟨c,hc⟩:=Meet.there hd h0 k a (nx b) (by omega) (fun e=>hall a (nx b) (.refl _) (.up (.refl _)) e) fun x y hx hy e=>hall x y hx (.up hy) e
        exact⟨c,.right h hc⟩
    ·rw[he h];exact⟨b,.same b⟩
    · have ha:a≠0:=fun e=>by rw[e,h0]at h;omega
      have hlt:=hd a ha
      cases k with
      |zero=>omega
      | succ k=>
        obtain⟨c,hc⟩:=Meet.there hd h0 k (nx a) b (by omega) (fun e=>hall (nx a) b (.up (.refl _)) (.refl _) e) fun x y hx hy e=>hall x y (.up hx) hy e
        exact⟨c,.left h hc⟩
theorem RulesW.ahead{E:Nat→Nat→Prop}{r a b:Nat}(h:RulesW E r b)(e:E a b)(hr:r≠b):RulesW E r a:=fun l hl=>by
 have:=h (b::l) (.step hl e)
 rcases Y2k.1 this with h1|h1
 ·exact absurd h1 hr
 ·exact h1
theorem Way.mem{E:Nat→Nat→Prop}{l:List Nat}{b:Nat}(h:Way E l b):∀{r:Nat},r∈l→∃k,Way E k r:=by
  induction h with
  |start=>intro r hr;rw[Y2d.1 hr];exact⟨_,.start⟩
  | @step l a b hw e ih=>
    intro r hr
    rcases Y2k.1 hr with rfl|hr
    ·exact⟨_,.step hw e⟩
    ·exact ih hr
def Without(E:Nat→Nat→Prop)(r b:Nat):Prop:=∃l,Way E l b∧r∉l
theorem rules_iff{E:Nat→Nat→Prop}{r b:Nat}(hb:∃l,Way E l b):RulesW E r b↔r=b∨((∃l,Way E l r)∧¬Without E r b):=by
 constructor
 ·intro h
  by_cases e:r=b
  ·exact .inl e
  ·obtain⟨l,hl⟩:=hb
   exact .inr ⟨hl.mem (h l hl),fun⟨k,hk,hn⟩=>hn (h k hk)⟩
 ·rintro(rfl|⟨_,h⟩) l hl
  ·exact hl.head
  ·by_cases hm:r∈l
   ·exact hm
   ·exact absurd ⟨l,hl,hm⟩ h
theorem z7V{E:Nat→Nat→Prop}{r:Nat}(C:Nat→Prop)(h0:r≠0→C 0)(h:∀a b,C a→E a b→b≠r→C b):∀{b:Nat},Without E r b→C b:=by
  rintro b ⟨l,hl,hn⟩
  induction hl with
  |start=>exact h0 fun e=>hn (by simp[e])
  | @step l a b hw e ih=>
    exact h a b (ih fun hm=>hn (Y0U _ hm)) e fun hb=>hn (by simp[hb])
theorem Without.next{E:Nat→Nat→Prop}{r a b:Nat}(h:Without E r a)(e:E a b)(hb:b≠r):Without E r b:=by
 obtain⟨l,hl,hn⟩:=h
 exact⟨b::l,.step hl e,fun hm=>by
  rcases Y2k.1 hm with h1|h1
  ·exact hb h1.symm
  ·exact hn h1⟩
theorem Without.first{E:Nat→Nat→Prop}{r:Nat}(h:r≠0):Without E r 0:=⟨[0],.start,by simpa using h⟩
def q6n{α:Type}(f:α→α):Nat→α→α
 |0,x=>x
 |k+1,x=>f (q6n f k x)
theorem iterN_fix{α:Type}{f:α→α}{c:α→Nat}{n:Nat}(hb:∀x,c x≤n)(hg:∀x,f x=x∨c x<c (f x))(x:α):f (q6n f n x)=q6n f n x:=by
  have key:∀k,f (q6n f k x)=q6n f k x∨k≤c (q6n f k x):=fun k=>by
    induction k with
    |zero=>exact .inr (Y0E _)
    | succ k ih=>
      rcases ih with h|h
      · refine .inl ?_
        show f (f (q6n f k x))=f (q6n f k x)
        rw[h];exact h
      · rcases hg (q6n f k x)with h1|h1
        · refine .inl ?_
          show f (f (q6n f k x))=f (q6n f k x)
          rw[h1];exact h1
        ·exact .inr (by show k+1≤c (f (q6n f k x));omega)
  rcases key n with h|h
  ·exact h
  · rcases hg (q6n f n x)with h1|h1
    ·exact h1
    ·have:=hb (f (q6n f n x));omega
def cnt(l:List Bool):Nat:=(l.filter id).length
theorem cnt_le(l:List Bool):cnt l≤l.length:=Y3G ..
theorem x5r:∀{a b:List Bool},a.length=b.length→(∀i:Nat,a[i]? =some true→b[i]? =some true)→b=a∨cnt a<cnt b
  |[],[],_,_=>.inl rfl
  | x ::a,y::b,hl,h=>by
    have hx:x=true→y=true:=fun e=>by have:=h 0 (by simp[e]);simpa using this
    rcases x5r (a:=a) (b:=b) (by simpa using hl) (fun i hi=>by have:=h (i+1) (by simpa using hi);simpa using this)with e|e
    · subst e
      cases x<;>cases y
      ·exact .inl rfl
      ·exact .inr (by simp[cnt])
      ·exact absurd (hx rfl) (by simp)
      ·exact .inl rfl
    · refine .inr ?_
      cases x<;>cases y
      ·simpa [cnt]using e
      · have:cnt (false::a)=cnt a:=by simp[cnt]
        have h2:cnt (true::b)=cnt b+1:=by simp[cnt]
        omega
      ·exact absurd (hx rfl) (by simp)
      · have:cnt (true::a)=cnt a+1:=by simp[cnt]
        have h2:cnt (true::b)=cnt b+1:=by simp[cnt]
        omega
  |[],_::_,hl,_=>by simp at hl
  |_::_,[],hl,_=>by simp at hl
def z7T(but:Int)(o:List Bool)(t:Nat):List Bool:=if(t:Int)=but then o else o.set t true
def x0A(to:Nat→List Nat)(but:Int)(o:List Bool)(i:Nat):List Bool:=if o[i]? =some true then(to i).foldl (z7T but) o else o
def q9t(to:Nat→List Nat)(but:Int)(n:Nat)(o:List Bool):List Bool:=(List.range n).foldl (x0A to but) o
def Le(a b:List Bool):Prop:=a.length=b.length∧∀i:Nat,a[i]? =some true→b[i]? =some true
theorem Le.refl(a:List Bool):Le a a:=⟨rfl,fun _ h=>h⟩
theorem Le.trans{a b c:List Bool}(h:Le a b)(k:Le b c):Le a c:=⟨h.1.trans k.1,fun i hi=>k.2 i (h.2 i hi)⟩
theorem z9A(but:Int)(o:List Bool)(t:Nat):Le o (z7T but o t):=by
 unfold z7T
 split
 ·exact .refl o
 ·refine⟨by simp,fun i hi=> ?_⟩
  rw[Y1I]
  have hlt:=(Y0m.1 hi).1
  split
  ·rename_i e;subst e;rw[Y0e hlt]
  ·exact hi
theorem z1z{X:Type}{f:List Bool→X→List Bool}(hf:∀o x,Le o (f o x)):∀(l:List X) (o:List Bool),Le o (l.foldl f o)
 |[],o=>.refl o
 |x::l,o=>(hf o x).trans (z1z hf l (f o x))
theorem z9B(to:Nat→List Nat)(but:Int)(o:List Bool)(i:Nat):Le o (x0A to but o i):=by
 unfold x0A
 split
 ·exact z1z (z9A but) _ _
 ·exact .refl o
theorem z1A(to:Nat→List Nat)(but:Int)(n:Nat)(o:List Bool):Le o (q9t to but n o):=z1z (z9B to but) _ _
theorem z6R{X:Type}{f:List Bool→X→List Bool}(hf:∀o x,Le o (f o x)):∀{l:List X} {x:X} (o:List Bool),x∈l→∃o1,Le o o1∧Le (f o1 x) (l.foldl f o)
  | y ::l,x,o,h=>by
    rcases Y2k.1 h with rfl|h
    ·exact⟨o,.refl o,z1z hf l (f o x)⟩
    · obtain⟨o1,h1,h2⟩:=z6R hf (f o y) h
      exact⟨o1,(hf o y).trans h1,h2⟩
theorem comeT_set{but:Int}{o:List Bool}{t:Nat}(ht:t<o.length)(hb:(t:Int)≠but):(z7T but o t)[t]? =some true:=by
 unfold z7T
 rw[Y0c hb,Y1I,Y0e rfl,Y0e ht]
theorem comeR_has{to:Nat→List Nat}{but:Int}{n i t:Nat}{o:List Bool}(hi:o[i]? =some true)(hin:i<n)(ht:t∈to i)(htl:t<o.length)(hb:(t:Int)≠but):(q9t to but n o)[t]? =some true:=by
 obtain⟨o1,h1,h2⟩:=z6R (z9B to but) o (Y2o.2 hin)
 refine h2.2 t ?_
 unfold x0A
 rw[Y0e (h1.2 i hi)]
 obtain⟨o2,h3,h4⟩:=z6R (z9A but) o1 ht
 exact h4.2 t (comeT_set (by have:=h1.1;have:=h3.1;omega) hb)
theorem x1p{X Y:Type}{f:X→Y→X}{I:X→Prop}{l:List Y}(hf:∀x y,y∈l→I x→I (f x y)){x:X}(h:I x):I (l.foldl f x):=by
 induction l generalizing x with
 |nil=>exact h
 |cons y l ih=>exact ih (fun x z hz=>hf x z (Y0U _ hz)) (hf x y Y0T h)
theorem comeR_inv{to:Nat→List Nat}{but:Int}{n:Nat}{o:List Bool}{C:Nat→Prop}(hC:∀a b,C a→b∈to a→(b:Int)≠but→C b)(h:∀i:Nat,o[i]? =some true→C i):∀i:Nat,(q9t to but n o)[i]? =some true→C i:=by
 refine x1p (I:=fun o=>∀i:Nat,o[i]? =some true→C i) (fun o i _ ho=> ?_) h
 unfold x0A
 split
 ·rename_i hi
  refine x1p (I:=fun o=>∀i:Nat,o[i]? =some true→C i) (fun o' t ht ho'=> ?_) ho
  unfold z7T
  split
  ·exact ho'
  ·rename_i hb
   intro j hj
   rw[Y1I]at hj
   split at hj
   ·rename_i e;subst e;exact hC i t (ho i hi) ht hb
   ·exact ho' j hj
 ·exact ho
def come(to:Nat→List Nat)(but:Int)(n:Nat)(o:List Bool):List Bool:=q6n (q9t to but n) n o
theorem z3A{to:Nat→List Nat}{but:Int}{n:Nat}{o:List Bool}:(come to but n o).length=o.length:=by
 have:∀k,(q6n (q9t to but n) k o).length=o.length:=fun k=>by
  induction k with
  |zero=>rfl
  |succ k ih=>exact(z1A to but n _).1.symm.trans ih
 exact this n
theorem x5q{to:Nat→List Nat}{but:Int}{n:Nat}{o:List Bool}{C:Nat→Prop}(hC:∀a b,C a→b∈to a→(b:Int)≠but→C b)(h:∀i:Nat,o[i]? =some true→C i):∀i:Nat,(come to but n o)[i]? =some true→C i:=by
 have:∀k,∀i:Nat,(q6n (q9t to but n) k o)[i]? =some true→C i:=fun k=>by
  induction k with
  |zero=>exact h
  |succ k ih=>exact comeR_inv hC ih
 exact this n
theorem x8n{to:Nat→List Nat}{but:Int}{n:Nat}{o:List Bool}:∀i:Nat,o[i]? =some true→(come to but n o)[i]? =some true:=by
 have:∀k,Le o (q6n (q9t to but n) k o):=fun k=>by
  induction k with
  |zero=>exact .refl o
  |succ k ih=>exact ih.trans (z1A to but n _)
 exact(this n).2
theorem z7p{to:Nat→List Nat}{but:Int}{n:Nat}{o:List Bool}(hn:o.length=n){i t:Nat}(hi:(come to but n o)[i]? =some true)(ht:t∈to i)(htn:t<n)(hb:(t:Int)≠but):(come to but n o)[t]? =some true:=by
 have hcl:=z3A (to:=to) (but:=but) (n:=n) (o:=o)
 have hin:i<n:=by have:=(Y0m.1 hi).1;omega
 let f:{l:List Bool//l.length=n}→{l:List Bool//l.length=n}:=fun x=>⟨q9t to but n x.1,(z1A to but n x.1).1.symm.trans x.2⟩
 have hf:∀x,f x=x∨cnt x.1<cnt (f x).1:=fun x=>by
  rcases x5r (z1A to but n x.1).1 (z1A to but n x.1).2 with e|e
  ·exact .inl (Subtype.ext e)
  ·exact .inr e
 have hfix:=iterN_fix (c:=fun x:{l:List Bool//l.length=n}=>cnt x.1) (n:=n) (fun x=>by have:=cnt_le x.1;rw[x.2]at this;exact this) hf ⟨o,hn⟩
 have hv:∀k,(q6n f k ⟨o,hn⟩).1=q6n (q9t to but n) k o:=fun k=>by
  induction k with
  |zero=>rfl
  |succ k ih=>show q9t to but n (q6n f k ⟨o,hn⟩).1=_;rw[ih];rfl
 have hfx:q9t to but n (come to but n o)=come to but n o:=by
  have:=Y1K Subtype.val hfix
  show q9t to but n (q6n (q9t to but n) n o)=q6n (q9t to but n) n o
  rw[←hv n];exact this
 rw[←hfx]
 exact comeR_has hi hin ht (by rw[z3A,hn];exact htn) hb
def z0k(n:Nat)(but:Int):List Bool:=(List.replicate n false).set 0 (decide ((0:Int)≠but))
def q6O(to:Nat→List Nat)(a b:Nat):Prop:=b∈to a
theorem x5m{n:Nat}{but:Int}{i:Nat}(h:(z0k n but)[i]? =some true):i=0∧(0:Int)≠but:=by
 unfold z0k at h
 rw[Y1I]at h
 split at h
 ·rename_i e
  split at h
  ·exact⟨e.symm,by simpa using h⟩
  ·cases h
 ·rw[Y3I]at h
  split at h
  ·simp at h
  ·cases h
theorem x2d{to:Nat→List Nat}{n r:Nat}(hn:0<n)(hto:∀i t,i<n→t∈to i→t<n)(b:Nat):(come to r n (z0k n r))[b]? =some true↔Without (q6O to) r b:=by
 have hlen:(z0k n (r:Int)).length=n:=by simp[z0k]
 constructor
 ·refine x5q (C:=Without (q6O to) r) (fun a b ha hb hne=>ha.next hb fun e=>hne (by rw[e])) (fun i hi=> ?_) b
  obtain⟨rfl,h0⟩:=x5m hi
  exact .first fun e=>h0 (by rw[e];rfl)
 ·refine z7V (fun b=>(come to r n (z0k n r))[b]? =some true) (fun h0=> ?_) fun a b ha hb hne=> ?_
  ·refine x8n 0 ?_
   unfold z0k
   rw[Y1I,Y0e rfl,Y0e (by simpa using hn)]
   have:(0:Int)≠(r:Int):=by omega
   simp[this]
  ·have han:a<n:=by have:=(Y0m.1 ha).1;rwa [z3A,hlen]at this
   exact z7p hlen ha hb (hto a b han hb) (by omega)
theorem z8K{to:Nat→List Nat}{n:Nat}(hn:0<n)(hto:∀i t,i<n→t∈to i→t<n)(b:Nat):(come to (-1) n (z0k n (-1)))[b]? =some true↔∃l,Way (q6O to) l b:=by
  have hlen:(z0k n (-1)).length=n:=by simp[z0k]
  constructor
  · refine x5q (C:=fun b=>∃l,Way (q6O to) l b) (fun a b ⟨l,ha⟩ hb _=>⟨_,.step ha hb⟩) (fun i hi=> ?_) b
    obtain⟨rfl,h0⟩:=x5m hi
    exact⟨_,.start⟩
  · rintro⟨l,hl⟩
    induction hl with
    | start=>
      refine x8n 0 ?_
      unfold z0k
      rw[Y1I,Y0e rfl,Y0e (by simpa using hn)]
      rfl
    | @step l a b hw e ih=>
      have han:a<n:=by have:=(Y0m.1 ih).1;rwa [z3A,hlen]at this
      exact z7p hlen ih e (hto a b han e) (by omega)
theorem ruled_iff{to:Nat→List Nat}{n a b:Nat}(hn:0<n)(hto:∀i t,i<n→t∈to i→t<n)(hb:∃l,Way (q6O to) l b):
  (a=b∨((come to (-1) n (z0k n (-1)))[a]? =some true∧¬(come to a n (z0k n a))[b]? =some true))↔RulesW (q6O to) a b:=by
 rw[rules_iff hb,z8K hn hto,x2d hn hto]
end Go.Ax
namespace Go.Ax
section
variable{E:Nat→Nat→Prop}{R:Nat→Prop}{par ord:Nat→Nat}
abbrev nxt(nx:Nat→Option Nat):Nat→Nat:=fun x=>(nx x).getD 0
structure Tree(E:Nat→Nat→Prop)(R:Nat→Prop)(par ord:Nat→Nat):Prop where
 zero:par 0=0
 edge:∀x,x≠0→R x→E (par x) x
 fall:∀x,x≠0→R x→ord (par x)<ord x
 there:∀x,R x→R (par x)
structure Turns(E:Nat→Nat→Prop)(R:Nat→Prop)(par ord:Nat→Nat)(nx:Nat→Option Nat):Prop where
 zero:nx 0=some 0
 reach:∀b c,nx b=some c→R b
 set:∀b c,nx b=some c→(nx c).isSome=true
 tree:∀b c,b≠0→nx b=some c→Anc par (par b) c
 kept:∀b c,nx b=some c→∀r,RulesW E r b→Anc (nxt nx) b r
theorem Tree.ord_le(T:Tree E R par ord){x r:Nat}(hx:R x)(h:Anc par x r):ord r≤ord x∧R r:=by
  induction h with
  |refl=>exact⟨Y0u _,hx⟩
  | @up x r h ih=>
    have:=ih (T.there x hx)
    by_cases h0:x=0
    ·subst h0;rw[T.zero]at this;exact this
    ·exact⟨Y0C this.1 (Nat.le_of_lt (T.fall x h0 hx)),this.2⟩
theorem Turns.chain{nx:Nat→Option Nat}(H:Turns E R par ord nx)(_T:Tree E R par ord){x r:Nat}(h:Anc (nxt nx) x r)(hs:(nx x).isSome=true):Anc par x r∧(nx r).isSome=true:=by
  induction h with
  |refl=>exact⟨.refl _,hs⟩
  | @up x r h ih=>
    obtain⟨c,hc⟩:=Y0W.1 hs
    have hn:nxt nx x=c:=by simp[nxt,hc]
    rw[hn]at ih h
    obtain⟨i1,i2⟩:=ih (H.set x c hc)
    by_cases h0:x=0
    · subst h0
      rw[H.zero]at hc
      cases hc
      exact⟨i1,i2⟩
    ·exact⟨.up ((H.tree x c h0 hc).trans i1),i2⟩
theorem Tree.down(T:Tree E R par ord){x b r:Nat}(h:Anc par x b)(hx:R x)(hr:ord r<ord b)(hb:∃l,Way E l b∧r∉l):∃l,Way E l x∧r∉l:=by
  induction h with
  |refl=>exact hb
  | @up x b h ih=>
    by_cases h0:x=0
    · subst h0
      rw[T.zero]at ih
      exact ih hx hr hb
    · obtain⟨l,hl,hn⟩:=ih (T.there x hx) hr hb
      refine⟨x::l,.step hl (T.edge x h0 hx),fun hm=> ?_⟩
      rcases Y2k.1 hm with e|e
      · subst e
        have h1:=(T.ord_le hx (.up h)).1
        omega
      ·exact hn e
theorem Turns.turn{nx:Nat→Option Nat}(H:Turns E R par ord nx)(T:Tree E R par ord){b m:Nat}(hb:R b)(h0:b≠0)(hp:(nx (par b)).isSome=true)
    (hm1:Anc (nxt nx) (par b) m) (hm2:∀r,(∀a,E a b→(nx a).isSome=true→Anc (nxt nx) a r)→Anc (nxt nx) m r):
    Turns E R par ord fun x=>if x=b then some m else nx x:=by
  obtain⟨mt,ms⟩:=H.chain T hm1 hp
  have mo:ord m<ord b:=by
    have:=(T.ord_le (T.there b hb) mt).1
    have:=T.fall b h0 hb
    omega
  have mne:m≠b:=fun e=>by rw[e]at mo;omega
  have hdrop:∀y,(nx y).isSome=true→ord (nxt nx y)≤ord y:=fun y hy=>by
    obtain⟨c,hc⟩:=Y0W.1 hy
    have hR:=H.reach y c hc
    have e:nxt nx y=c:=by simp[nxt,hc]
    rw[e]
    by_cases hy0:y=0
    ·subst hy0;rw[H.zero]at hc;cases hc;exact Y0u _
    · have h1:=(T.ord_le (T.there y hR) (H.tree y c hy0 hc)).1
      have h2:=T.fall y hy0 hR
      omega
  have low:∀{y r},Anc (nxt nx) y r→(nx y).isSome=true→ord y<ord b→Anc (nxt fun x=>if x=b then some m else nx x) y r:=fun{y r} h=>by
    induction h with
    |refl=>intro _ _;exact .refl _
    | @up y r h ih=>
      intro hs ho
      have hne:y≠b:=fun e=>by rw[e]at ho;omega
      obtain⟨c,hc⟩:=Y0W.1 hs
      have e1:nxt nx y=c:=by simp[nxt,hc]
      have e2:(nxt fun x=>if x=b then some m else nx x) y=c:=by simp[nxt,hne,hc]
      have h3:=hdrop y hs
      rw[e1]at h3 ih
      refine .up ?_
      rw[e2]
      exact ih (H.set y c hc) (by omega)
  have atb:∀r,RulesW E r b→Anc (nxt fun x=>if x=b then some m else nx x) b r:=fun r hr=>by
    by_cases e:r=b
    ·rw[e];exact .refl _
    · refine .up ?_
      have e2:(nxt fun x=>if x=b then some m else nx x) b=m:=by simp[nxt]
      rw[e2]
      refine low (hm2 r fun a ha hs=> ?_) ms mo
      obtain⟨c,hc⟩:=Y0W.1 hs
      exact H.kept a c hc r (hr.ahead ha e)
  refine⟨?_,fun x c hx=> ?_,fun x c hx=> ?_,fun x c hx0 hx=> ?_,fun x c hx r hr=> ?_⟩
  ·rw[Y0c (fun e=>h0 e.symm)];exact H.zero
  · by_cases e:x=b
    ·rw[e];exact hb
    ·rw[Y0c e]at hx;exact H.reach x c hx
  · by_cases e:x=b
    · rw[Y0e e]at hx;cases hx
      rw[Y0c mne];exact ms
    · rw[Y0c e]at hx
      have:=H.set x c hx
      by_cases ec:c=b
      ·rw[Y0e ec];rfl
      ·rw[Y0c ec];exact this
  · by_cases e:x=b
    ·rw[Y0e e]at hx;cases hx;rw[e];exact mt
    ·rw[Y0c e]at hx;exact H.tree x c hx0 hx
  · by_cases e:x=b
    ·rw[e]at hr⊢;exact atb r hr
    · rw [Y0c e]at hx
      have hRx:=H.reach x c hx
      have key:∀{z r},Anc (nxt nx) z r→(nx z).isSome=true→Anc (nxt nx) x z→RulesW E r x→Anc (nxt fun x=>if x=b then some m else nx x) z r:=fun{z r} h=>by
        induction h with
        |refl=>intro _ _ _;exact .refl _
        | @up z r h ih=>
          intro hs hz hr
          by_cases ez:z=b
          · subst ez
            refine atb r fun l hl=> ?_
            by_cases hm:r∈l
            ·exact hm
            · exfalso
              obtain⟨cz,hcz⟩:=Y0W.1 hs
              have e1:nxt nx z=cz:=by simp[nxt,hcz]
              rw[e1]at h
              have h1:=(T.ord_le (H.reach _ _ (Y0W.1 (H.set z cz hcz)).choose_spec) (H.chain T h (H.set z cz hcz)).1).1
              have h2:=(T.ord_le (T.there z hb) (H.tree z cz h0 hcz)).1
              have h3:=T.fall z h0 hb
              obtain⟨k,hk,hn⟩:=T.down (H.chain T hz (by rw[hx];rfl)).1 hRx (r:=r) (by omega) ⟨l,hl,hm⟩
              exact hn (hr k hk)
          · obtain⟨cz,hcz⟩:=Y0W.1 hs
            have e1:nxt nx z=cz:=by simp[nxt,hcz]
            have e2:(nxt fun x=>if x=b then some m else nx x) z=cz:=by simp[nxt,ez,hcz]
            refine .up ?_
            rw[e2]
            rw[e1]at ih
            exact ih (H.set z cz hcz) (hz.trans (.up (by rw[e1];exact .refl _))) hr
      exact key (H.kept x c hx r hr) (by rw[hx];rfl) (.refl _) hr
theorem Turns.rules{nx:Nat→Option Nat}(H:Turns E R par ord nx)(hR:∀l a,Way E l a→R a)(hall:∀b,R b→(nx b).isSome=true)(hfix:∀a b,b≠0→R a→E a b→Anc (nxt nx) a (nxt nx b)){b r:Nat}(hb:∃l,Way E l b):Anc (nxt nx) b r↔RulesW E r b:=by
 constructor
 ·intro h l hl
  exact fix_sound (by simp[nxt,H.zero]) (fun a b l hb hw e=>hfix a b hb (hR l a hw) e) hl r h
 ·intro h
  obtain⟨l,hl⟩:=hb
  obtain⟨c,hc⟩:=Y0W.1 (hall b (hR l b hl))
  exact H.kept b c hc r h
inductive Best(nx:Nat→Option Nat)(ord:Nat→Nat):List Nat→Option Nat→Option Nat→Prop
 |nil (o:Option Nat):Best nx ord [] o o
 |skip {a:Nat} {l:List Nat} {o r:Option Nat} (h:nx a=none) (k:Best nx ord l o r):Best nx ord (a::l) o r
 |first {a:Nat} {l:List Nat} {r:Option Nat} (h:(nx a).isSome=true) (k:Best nx ord l (some a) r):Best nx ord (a::l) none r
 |more {a c m:Nat} {l:List Nat} {r:Option Nat} (h:(nx a).isSome=true) (hm:Meet (nxt nx) ord c a m) (k:Best nx ord l (some m) r):Best nx ord (a::l) (some c) r
theorem Best.spec{nx:Nat→Option Nat}{ord:Nat→Nat}(hd:∀b,ord (nxt nx b)≤ord b){l:List Nat}{o r:Option Nat}(h:Best nx ord l o r):
    (∀c,o=some c→∃m,r=some m∧Anc (nxt nx) c m)∧(∀a∈l,(nx a).isSome=true→∃m,r=some m∧Anc (nxt nx) a m)∧
    ∀m,r=some m→∀x,(∀c,o=some c→Anc (nxt nx) c x)→(∀a∈l,(nx a).isSome=true→Anc (nxt nx) a x)→Anc (nxt nx) m x:=by
  induction h with
  |nil o=>exact⟨fun c hc=>⟨c,hc,.refl _⟩,fun a ha=>(by cases ha),fun m hm x h _=>h m hm⟩
  | skip h _ ih=>
    obtain⟨i1,i2,i3⟩:=ih
    refine⟨i1,fun b hb hs=> ?_,fun m hm x h1 h2=>i3 m hm x h1 fun b hb=>h2 b (Y0U _ hb)⟩
    rcases Y2k.1 hb with rfl|hb
    ·rw[h]at hs;cases hs
    ·exact i2 b hb hs
  | @first a l r h _ ih=>
    obtain⟨i1,i2,i3⟩:=ih
    refine⟨fun c hc=>(by cases hc),fun b hb hs=> ?_,fun m hm x _ h2=>i3 m hm x (fun c hc=>by cases hc;exact h2 a Y0T h) fun b hb=>h2 b (Y0U _ hb)⟩
    rcases Y2k.1 hb with rfl|hb
    ·exact i1 b rfl
    ·exact i2 b hb hs
  | @more a c m0 l r h hm _ ih=>
    obtain⟨i1,i2,i3⟩:=ih
    obtain⟨s1,s2,s3⟩:=hm.spec hd
    obtain⟨m1,e1,e2⟩:=i1 m0 rfl
    refine⟨fun d hd'=>by cases hd';exact⟨m1,e1,s1.trans e2⟩,fun b hb hs=> ?_,fun m hm' x h1 h2=>i3 m hm' x (fun d hd'=>by cases hd';exact s3 x (h1 c rfl) (h2 a Y0T h)) fun b hb=>h2 b (Y0U _ hb)⟩
    rcases Y2k.1 hb with rfl|hb
    ·exact⟨m1,e1,s2.trans e2⟩
    ·exact i2 b hb hs
end
end Go.Ax
namespace Go.Ax
inductive Walk(to:Nat→List Nat):List Nat→List Nat→List Nat→List Nat→List Nat→Prop
 |nil (bg dn:List Nat):Walk to bg dn [] bg dn
 |old {b:Nat} {l bg dn bg' dn':List Nat} (h:b∈bg) (k:Walk to bg dn l bg' dn'):Walk to bg dn (b::l) bg' dn'
 |new {b:Nat} {l bg dn bg1 dn1 bg' dn':List Nat} (h:b∉bg) (k:Walk to (b::bg) dn (to b) bg1 dn1) (m:Walk to bg1 (dn1++[b]) l bg' dn'):Walk to bg dn (b::l) bg' dn'
def Later(l:List Nat)(x a:Nat):Prop:=∃u v,l=u++x::v∧a∈v
theorem Later.left{l k:List Nat}{x a:Nat}(h:Later l x a):Later (l++k) x a:=by
 obtain⟨u,v,rfl,ha⟩:=h
 exact⟨u,v++k,by simp,Y2e _ ha⟩
theorem Later.right{l k:List Nat}{x a:Nat}(h:Later l x a):Later (k++l) x a:=by
 obtain⟨u,v,rfl,ha⟩:=h
 exact⟨k++u,v,by simp,ha⟩
theorem Later.of{l k:List Nat}{x a:Nat}(hx:x∈l)(ha:a∈k):Later (l++k) x a:=by
 obtain⟨u,v,rfl⟩:=List.append_of_mem hx
 exact⟨u,v++k,by simp,Y2f _ ha⟩
theorem Walk.spec{to:Nat→List Nat}{bg dn l bg' dn':List Nat}(h:Walk to bg dn l bg' dn'):
    ∃new,dn'=dn++new∧(∀x∈new,x∉bg)∧new.Nodup∧(∀x,x∈bg'↔x∈bg∨x∈new)∧(∀b∈l,b∈bg')∧(∀x∈new,x∈l∨∃a,Later new x a∧x∈to a)∧∀x∈new,∀t∈to x,t∈bg':=by
  induction h with
  |nil bg dn=>exact⟨[],by simp,by simp,by simp,by simp,by simp,by simp,by simp⟩
  | @old b l bg dn bg' dn' h _ ih=>
    obtain⟨new,e1,e2,e3,e4,e5,e6,e7⟩:=ih
    refine⟨new,e1,e2,e3,e4,fun c hc=> ?_,fun x hx=> ?_,e7⟩
    · rcases Y2k.1 hc with rfl|hc
      ·exact(e4 c).2 (.inl h)
      ·exact e5 c hc
    · rcases e6 x hx with h1|h1
      ·exact .inl (Y0U _ h1)
      ·exact .inr h1
  | @new b l bg dn bg1 dn1 bg' dn' h _ _ ih1 ih2=>
    obtain⟨n1,a1,a2,a3,a4,a5,a6,a7⟩:=ih1
    obtain⟨n2,b1,b2,b3,b4,b5,b6,b7⟩:=ih2
    have hb1:b∈bg1:=(a4 b).2 (.inl Y0T)
    have hbn1:b∉n1:=fun hm=>a2 b hm Y0T
    have hbn2:b∉n2:=fun hm=>b2 b hm hb1
    have hd:∀x∈n1,x∉n2:=fun x hx hm=>b2 x hm ((a4 x).2 (.inr hx))
    refine⟨n1++([b]++n2),by rw[b1,a1];simp,fun x hx=> ?_,?_,fun x=> ?_,fun c hc=> ?_,fun x hx=> ?_,fun x hx t ht=> ?_⟩
    · rcases Y3o.1 hx with h1|h1
      ·exact fun hm=>a2 x h1 (Y0U _ hm)
      · rcases Y3o.1 h1 with h2|h2
        ·rw[Y2d.1 h2];exact h
        ·exact fun hm=>b2 x h2 ((a4 x).2 (.inl (Y0U _ hm)))
    · refine Y3J.2 ⟨a3,Y3J.2 ⟨by simp,b3,?_⟩,?_⟩
      · intro x hx y hy e
        rw[Y2d.1 hx]at e
        exact hbn2 (e▸hy)
      · intro x hx y hy e
        subst e
        rcases Y3o.1 hy with h2|h2
        ·rw[Y2d.1 h2]at hx;exact hbn1 hx
        ·exact hd x hx h2
    · rw[b4,a4]
      simp only[Y2k,Y3o,List.not_mem_nil,or_false]
      constructor
      · intro h1
        rcases h1 with(((h1|h1)|h1)|h1)
        ·exact .inr (.inr (.inl h1))
        ·exact .inl h1
        ·exact .inr (.inl h1)
        ·exact .inr (.inr (.inr h1))
      · intro h1
        rcases h1 with h1|h1|h1|h1
        ·exact .inl (.inl (.inr h1))
        ·exact .inl (.inr h1)
        ·exact .inl (.inl (.inl h1))
        ·exact .inr h1
    · rcases Y2k.1 hc with rfl|hc
      ·exact(b4 c).2 (.inl hb1)
      ·exact b5 c hc
    · rcases Y3o.1 hx with h1|h1
      · rcases a6 x h1 with h2|⟨a,h2,h3⟩
        ·exact .inr ⟨b,.of h1 (by simp),h2⟩
        ·exact .inr ⟨a,h2.left,h3⟩
      · rcases Y3o.1 h1 with h2|h2
        ·rw[Y2d.1 h2];exact .inl Y0T
        · rcases b6 x h2 with h3|⟨a,h3,h4⟩
          ·exact .inl (Y0U _ h3)
          ·exact .inr ⟨a,h3.right.right,h4⟩
    · rcases Y3o.1 hx with h1|h1
      ·exact(b4 t).2 (.inl (a7 x h1 t ht))
      · rcases Y3o.1 h1 with h2|h2
        · rw[Y2d.1 h2]at ht
          exact(b4 t).2 (.inl (a5 t ht))
        ·exact b7 x h2 t ht
end Go.Ax
namespace Go.Ax
section
variable{E:Nat→Nat→Prop}{R:Nat→Prop}{par ord:Nat→Nat}
theorem Way.upto{l:List Nat}{a:Nat}(h:Way E l a):∀{b:Nat},b∈l→∃k,Way E k b∧k<:+l:=by
  induction h with
  |start=>intro b hb;rw[Y2d.1 hb];exact⟨_,.start,List.suffix_refl _⟩
  | @step l a c hw e ih=>
    intro b hb
    rcases Y2k.1 hb with rfl|hb
    ·exact⟨_,.step hw e,List.suffix_refl _⟩
    · obtain⟨k,h1,h2⟩:=ih hb
      exact⟨k,h1,h2.trans (List.suffix_cons _ _)⟩
theorem Way.short{l:List Nat}{a:Nat}(h:Way E l a):∃k,Way E k a∧k.Nodup∧∀x∈k,x∈l:=by
  induction h with
  |start=>exact⟨_,.start,by simp,fun _ h=>h⟩
  | @step l a b hw e ih=>
    obtain⟨k,h1,h2,h3⟩:=ih
    by_cases hb:b∈k
    · obtain⟨u,h4,h5⟩:=h1.upto hb
      exact⟨u,h4,h5.sublist.nodup h2,fun x hx=>Y0U _ (h3 x (h5.subset hx))⟩
    · refine⟨b::k,.step h1 e,List.nodup_cons.2 ⟨hb,h2⟩,fun x hx=> ?_⟩
      rcases Y2k.1 hx with rfl|hx
      ·exact Y0T
      ·exact Y0U _ (h3 x hx)
theorem z3F:∀(n:Nat) (l:List Nat),l.Nodup→(∀x∈l,x<n)→l.length≤n
  | 0,l,_,h=>by
    cases l with
    |nil=>simp
    |cons x l=>exact absurd (h x Y0T) (by omega)
  | n + 1,l,hn,h=>by
    have h1:=z3F n (l.erase n) (hn.erase n) fun x hx=>by
      have:=h x (List.mem_of_mem_erase hx)
      have:x≠n:=fun e=>by
        rw[e]at hx
        exact(List.Nodup.not_mem_erase hn) hx
      omega
    by_cases hm:n∈l
    ·rw[List.length_erase_of_mem hm]at h1;omega
    ·rw[List.erase_of_not_mem hm]at h1;omega
structure Mid(E:Nat→Nat→Prop)(R:Nat→Prop)(par ord:Nat→Nat)(k j:Nat)(nx:Nat→Option Nat):Prop where
 turns:Turns E R par ord nx
 early:∀x,R x→(ord x<j∨0<k)→(nx x).isSome=true
 word:∀x l,Way E l x→l.length≤(if ord x<j then k+1 else k)→(nx x).isSome=true→∀r,Anc (nxt nx) x r→r∈l
def upd(nx:Nat→Option Nat)(b m:Nat):Nat→Option Nat:=fun x=>if x=b then some m else nx x
theorem Way.len{l:List Nat}{a:Nat}(h:Way E l a):0<l.length:=by cases h<;>simp
theorem Turns.drop{nx:Nat→Option Nat}(H:Turns E R par ord nx)(T:Tree E R par ord)(h0:ord 0=0)(y:Nat):ord (nxt nx y)≤ord y:=by
  cases hc:nx y with
  |none=>simp[nxt,hc,h0]
  | some c=>
    have hR:=H.reach y c hc
    have e:nxt nx y=c:=by simp[nxt,hc]
    rw[e]
    by_cases hy0:y=0
    ·subst hy0;rw[H.zero]at hc;cases hc;exact Y0u _
    · have h1:=(T.ord_le (T.there y hR) (H.tree y c hy0 hc)).1
      have h2:=T.fall y hy0 hR
      omega
theorem Turns.fall{nx:Nat→Option Nat}(H:Turns E R par ord nx)(T:Tree E R par ord){y c:Nat}(hy:y≠0)(hc:nx y=some c):ord c<ord y:=by
 have hR:=H.reach y c hc
 have h1:=(T.ord_le (T.there y hR) (H.tree y c hy hc)).1
 have h2:=T.fall y hy hR
 omega
theorem Turns.below{nx:Nat→Option Nat}(H:Turns E R par ord nx)(T:Tree E R par ord)(h0:ord 0=0){b m:Nat}{y r:Nat}(h:Anc (nxt (upd nx b m)) y r):ord y<ord b→Anc (nxt nx) y r:=by
  induction h with
  |refl=>exact fun _=>.refl _
  | @up y r h ih=>
    intro ho
    have hne:y≠b:=fun e=>by rw[e]at ho;omega
    have e2:nxt (upd nx b m) y=nxt nx y:=by simp[nxt,upd,hne]
    rw[e2]at ih
    exact .up (ih (by have:=H.drop T h0 y;omega))
theorem Mid.turn{k j:Nat}{nx:Nat→Option Nat}(H:Mid E R par ord k j nx)(T:Tree E R par ord)(h0:ord 0=0)(inj:∀x y,R x→R y→ord x=ord y→x=y)
    (hR:∀l a,Way E l a→R a) {b:Nat} (hb:R b) (hj:ord b=j) (j0:0<j) {pb:List Nat} (hpb:∀a,R a→(a∈pb↔E a b)) {r:Option Nat} (hB:Best nx ord pb none r):
    ∃m,r=some m∧Mid E R par ord k (j+1) (upd nx b m):=by
  have hb0:b≠0:=fun e=>by rw[e,h0]at hj;omega
  have hpR:=T.there b hb
  have hpo:=T.fall b hb0 hb
  have hps:=H.early (par b) hpR (.inl (by omega))
  obtain⟨_,s2,s3⟩:=hB.spec (H.turns.drop T h0)
  obtain⟨m,rfl,hm1⟩:=s2 (par b) ((hpb _ hpR).2 (T.edge b hb0 hb)) hps
  have hm2:∀r,(∀a,E a b→(nx a).isSome=true→Anc (nxt nx) a r)→Anc (nxt nx) m r:=fun r h=>s3 m rfl r (fun c hc=>by cases hc) fun a ha hs=>by
    obtain⟨c,hc⟩:=Y0W.1 hs
    exact h a ((hpb a (H.turns.reach a c hc)).1 ha) hs
  have HT:Turns E R par ord (upd nx b m):=H.turns.turn T hb hb0 hps hm1 hm2
  obtain⟨mt,ms⟩:=H.turns.chain T hm1 hps
  have mo:ord m<ord b:=by have:=(T.ord_le hpR mt).1;omega
  have atb:∀l,Way E l b→l.length≤k+1→∀r,Anc (nxt (upd nx b m)) b r→r∈l:=fun l hl hlen r hr=>by
    cases hr with
    |refl=>exact hl.head
    | up hr=>
      have e2:nxt (upd nx b m) b=m:=by simp[nxt,upd]
      rw[e2]at hr
      have hr:=H.turns.below T h0 hr mo
      cases hl with
      |start=>exact absurd rfl hb0
      | @step l a _ hw e=>
        have hla:=hw.len
        simp only[Y2i]at hlen
        have has:=H.early a (hR l a hw) (.inr (by omega))
        obtain⟨m',e1,hm'⟩:=s2 a ((hpb a (hR l a hw)).2 e) has
        cases e1
        refine Y0U _ (H.word a l hw ?_ has r (hm'.trans hr))
        split<;>omega
  refine⟨m,rfl,HT,fun x hx ho=> ?_,fun x l hl hlen hs r hr=> ?_⟩
  · by_cases e:x=b
    ·simp[upd,e]
    · have:ord x≠ord b:=fun h=>e (inj x b hx hb h)
      have:=H.early x hx (by omega)
      simpa [upd,e]using this
  · by_cases e:x=b
    · subst e
      exact atb l hl (by rw[Y0e (by omega)]at hlen;exact hlen) r hr
    · have hx:=hR l x hl
      have hne:ord x≠ord b:=fun h=>e (inj x b hx hb h)
      have hlen':l.length≤(if ord x<j then k+1 else k):=by
        by_cases h1:ord x<j
        ·rw[Y0e h1];rw[Y0e (by omega)]at hlen;exact hlen
        ·rw[Y0c h1];rw[Y0c (by omega)]at hlen;exact hlen
      have hxs:(nx x).isSome=true:=by simpa [upd,e]using hs
      have key:∀{z r},Anc (nxt (upd nx b m)) z r→Anc (nxt nx) x z→r∈l:=fun{z r} h=>by
        induction h with
        |refl=>exact fun hz=>H.word x l hl hlen' hxs _ hz
        | @up z r h ih=>
          intro hz
          by_cases ez:z=b
          · subst ez
            obtain⟨u,h1,h2⟩:=hl.upto (H.word x l hl hlen' hxs _ hz)
            refine h2.subset (atb u h1 ?_ r (.up h))
            have h3:=h2.length_le
            have:l.length≤k+1:=by split at hlen'<;>omega
            omega
          · have e2:nxt (upd nx b m) z=nxt nx z:=by simp[nxt,upd,ez]
            rw[e2]at ih
            exact ih (hz.trans (.up (.refl _)))
      exact key hr (.refl _)
theorem Mid.next{k n:Nat}{nx:Nat→Option Nat}(H:Mid E R par ord k n nx)(hn:∀x,R x→ord x<n)(hR:∀l a,Way E l a→R a)(inj:∀x y,R x→R y→ord x=ord y→x=y)(h0:ord 0=0)(r0:R 0):Mid E R par ord (k+1) 1 nx:=by
 refine⟨H.turns,fun x hx _=>H.early x hx (.inl (hn x hx)),fun x l hl hlen hs r hr=> ?_⟩
 have hx:=hR l x hl
 by_cases h1:ord x<1
 ·have:x=0:=inj x 0 hx r0 (by omega)
  have:=hr.root (by simp[nxt,H.turns.zero]) this
  rw[this]
  rename_i e
  rw[e]at hl
  exact hl.head
 ·rw[Y0c h1]at hlen
  exact H.word x l hl (by rw[Y0e (hn x hx)];exact hlen) hs r hr
theorem Mid.start(h0:ord 0=0)(r0:R 0)(inj:∀x y,R x→R y→ord x=ord y→x=y):Mid E R par ord 0 1 (fun x=>if x=0 then some 0 else none):=by
 have hz:∀{x c:Nat},(if x=0 then some 0 else none)=some c→x=0∧c=0:=fun{x c} h=>by
  split at h
  ·rename_i e;cases h;exact⟨e,rfl⟩
  ·cases h
 refine⟨⟨by simp,fun b c h=>(hz h).1▸r0,fun b c h=>by rw[(hz h).2];simp,fun b c hb h=>absurd (hz h).1 hb,fun b c h r hr=> ?_⟩,fun x hx h=> ?_,fun x l hl _ hs r hr=> ?_⟩
 ·obtain⟨rfl,rfl⟩:=hz h
  have:=hr [0] .start
  rw[Y2d.1 this]
  exact .refl _
 ·have:x=0:=inj x 0 hx r0 (by omega)
  simp[this]
 ·obtain⟨c,hc⟩:=Y0W.1 hs
  obtain⟨rfl,rfl⟩:=hz hc
  rw[hr.root (by simp[nxt]) rfl]
  exact hl.head
theorem Mid.rules{k j n:Nat}{nx:Nat→Option Nat}(H:Mid E R par ord k j nx)(hR:∀l a,Way E l a→R a)(hn:∀x,R x→x<n)(hk:n≤k)(k0:0<k){x r:Nat}(hx:∃l,Way E l x):Anc (nxt nx) x r↔RulesW E r x:=by
 obtain⟨l0,hl0⟩:=hx
 have hs:=H.early x (hR _ _ hl0) (.inr k0)
 constructor
 ·intro h l hl
  obtain⟨u,h1,h2,h3⟩:=hl.short
  have hlen:=z3F n u h2 fun y hy=>hn y (by obtain⟨w,hw⟩:=h1.mem hy;exact hR _ _ hw)
  exact h3 r (H.word x u h1 (by split<;>omega) hs r h)
 ·intro h
  obtain⟨c,hc⟩:=Y0W.1 hs
  exact H.turns.kept x c hc r h
theorem chain_one{nx ny:Nat→Option Nat}(H:Turns E R par ord nx)(H':Turns E R par ord ny)(T:Tree E R par ord)(inj:∀x y,R x→R y→ord x=ord y→x=y){x c d:Nat}(hx:nx x=some c)(hy:ny x=some d)(hall:∀r,Anc (nxt nx) x r↔Anc (nxt ny) x r)(h0:ord 0=0):c=d:=by
 by_cases e:x=0
 ·subst e;rw[H.zero]at hx;rw[H'.zero]at hy;cases hx;cases hy;rfl
 ·have f1:=H.fall T e hx
  have f2:=H'.fall T e hy
  have e1:nxt nx x=c:=by simp[nxt,hx]
  have e2:nxt ny x=d:=by simp[nxt,hy]
  have a1:Anc (nxt ny) x c:=(hall c).1 (.up (by rw[e1];exact .refl _))
  have a2:Anc (nxt nx) x d:=(hall d).2 (.up (by rw[e2];exact .refl _))
  have b1:ord c≤ord d:=by
   cases a1 with
   |refl=>omega
   |up h=>rw[e2]at h;exact h.ord (H'.drop T h0)
  have b2:ord d≤ord c:=by
   cases a2 with
   |refl=>omega
   |up h=>rw[e1]at h;exact h.ord (H.drop T h0)
  refine inj c d ?_ ?_ (by omega)
  ·obtain⟨q,hq⟩:=Y0W.1 (H.set x c hx);exact H.reach _ _ hq
  ·obtain⟨q,hq⟩:=Y0W.1 (H'.set x d hy);exact H'.reach _ _ hq
theorem Mid.stable{k n N:Nat}{nx ny:Nat→Option Nat}(H:Mid E R par ord k 1 nx)(H':Mid E R par ord k n ny)(T:Tree E R par ord)(inj:∀x y,R x→R y→ord x=ord y→x=y)(hR:∀l a,Way E l a→R a)(hW:∀x,R x→∃l,Way E l x)(hN:∀x,R x→x<N)(hk:N≤k)(k0:0<k)(h0:ord 0=0):ny=nx:=by
  funext x
  cases h1:nx x with
  | none=>
    cases h2:ny x with
    |none=>rfl
    |some d=>have:=H.early x (H'.turns.reach x d h2) (.inr k0);rw[h1]at this;cases this
  | some c=>
    have hx:=H.turns.reach x c h1
    obtain⟨d,h2⟩:=Y0W.1 (H'.early x hx (.inr k0))
    rw[h2,chain_one H.turns H'.turns T inj h1 h2 (fun r=>(H.rules hR hN hk k0 (hW x hx)).trans (H'.rules hR hN hk k0 (hW x hx)).symm) h0]
inductive Rnd(ord:Nat→Nat)(preds:Nat→List Nat)(nx:Nat→Option Nat):List Nat→(Nat→Option Nat)→Prop
 |nil:Rnd ord preds nx [] nx
 |snoc {bs:List Nat} {y:Nat→Option Nat} {b m:Nat} (h:Rnd ord preds nx bs y) (hB:Best y ord (preds b) none (some m)):Rnd ord preds nx (bs++[b]) (upd y b m)
theorem Rnd.fixed{preds:Nat→List Nat}{nx y:Nat→Option Nat}{bs:List Nat}(h:Rnd ord preds nx bs y):bs.Nodup→(∀b∈bs,y b=nx b)→y=nx∧∀b∈bs,Best nx ord (preds b) none (nx b):=by
  induction h with
  |nil=>exact fun _ _=>⟨rfl,fun b hb=>by cases hb⟩
  | @snoc bs y b m h hB ih=>
    intro hn hy
    obtain⟨n1,_,n3⟩:=Y3J.1 hn
    obtain⟨rfl,i2⟩:=ih n1 fun c hc=>by
      have hcb:c≠b:=fun e=>n3 c hc b (by simp) e
      have:=hy c (Y2e _ hc)
      simpa [upd,hcb]using this
    have hb:=hy b (by simp)
    simp only[upd,Y1n]at hb
    refine⟨funext fun x=> ?_,fun c hc=> ?_⟩
    · unfold upd;split
      ·rename_i e;rw[e];exact hb
      ·rfl
    · rcases Y3o.1 hc with hc|hc
      ·exact i2 c hc
      ·rw[Y2d.1 hc,←hb];exact hB
theorem Mid.done{k j:Nat}{nx:Nat→Option Nat}(H:Mid E R par ord k j nx)(hall:∀x,R x→(nx x).isSome=true)(T:Tree E R par ord)(h0:ord 0=0)(hR:∀l a,Way E l a→R a){preds:Nat→List Nat}(hpb:∀a b,R a→(a∈preds b↔E a b))(hB:∀b,R b→b≠0→Best nx ord (preds b) none (nx b))(hcl:∀a b,R a→E a b→R b){x r:Nat}(hx:∃l,Way E l x):Anc (nxt nx) x r↔RulesW E r x:=by
 refine H.turns.rules hR hall (fun a b hb ha e=> ?_) hx
 have hRb:=hcl a b ha e
 obtain⟨_,s2,_⟩:=(hB b hRb hb).spec (H.turns.drop T h0)
 obtain⟨m,e1,e2⟩:=s2 a ((hpb a b ha).2 e) (hall a ha)
 have:nxt nx b=m:=by simp[nxt,e1]
 rw[this];exact e2
end
theorem Walk.order{to:Nat→List Nat}{bg dn:List Nat}(h:Walk to [] [] [0] bg dn):
  (∃par,Tree (q6O to) (·∈dn) par (fun x=>dn.reverse.idxOf x))∧(∃t,dn.reverse=0::t)∧dn.Nodup∧(∀x∈dn,∀t∈to x,t∈dn)∧(∀x,x∈bg↔x∈dn):=by
 have hlast:∃u,dn=u++[0]:=by
  cases h with
  |old h _=>cases h
  |new _ k m=>cases m;exact⟨_,rfl⟩
 obtain⟨new,e1,_,e3,e4,_,e6,e7⟩:=h.spec
 simp only[List.nil_append]at e1
 subst e1
 simp only[List.not_mem_nil,false_or]at e4
 obtain⟨u,rfl⟩:=hlast
 refine⟨?_,⟨u.reverse,by simp⟩,e3,fun x hx t ht=>(e4 t).1 (e7 x hx t ht),e4⟩
 have hz:(u++[0]).reverse=0::u.reverse:=by simp
 have hp:∀x,∃p,(x≠0→x∈u++[0]→q6O to p x∧(u++[0]).reverse.idxOf p<(u++[0]).reverse.idxOf x∧p∈u++[0])∧(x=0→p=0)∧(x∈u++[0]→p∈u++[0]):=fun x=>by
  by_cases h0:x=0
  ·exact⟨0,fun h=>absurd h0 h,fun _=>rfl,fun _=>by simp⟩
  ·by_cases hx:x∈u++[0]
   ·rcases e6 x hx with h1|⟨a,⟨v,w,h1,h2⟩,h3⟩
    ·exact absurd (Y2d.1 h1) h0
    ·have ha:a∈u++[0]:=by rw[h1];simp[h2]
     refine⟨a,fun _ _=>⟨h3,?_,ha⟩,fun e=>absurd e h0,fun _=>ha⟩
     have hr:(u++[0]).reverse=w.reverse++([x]++v.reverse):=by rw[h1];simp
     have hn:(u++[0]).reverse.Nodup:=by unfold List.Nodup at*;rw[List.pairwise_reverse];exact e3.imp fun h=>h.symm
     rw[hr]at hn⊢
     have haw:a∈w.reverse:=by simpa using h2
     have hxw:x∉w.reverse:=fun hm=>(Y3J.1 hn).2.2 x hm x (by simp) rfl
     rw[List.idxOf_append,Y0e haw,List.idxOf_append,Y0c hxw]
     have:=Y3K haw
     omega
   ·exact⟨0,fun _ h=>absurd h hx,fun e=>absurd e h0,fun h=>absurd h hx⟩
 let par:=fun x=>(hp x).choose
 have hpar:∀x,_:=fun x=>(hp x).choose_spec
 exact⟨par,(hpar 0).2.1 rfl,fun x h0 hx=>((hpar x).1 h0 hx).1,fun x h0 hx=>((hpar x).1 h0 hx).2.1,fun x hx=>(hpar x).2.2 hx⟩
end Go.Ax
