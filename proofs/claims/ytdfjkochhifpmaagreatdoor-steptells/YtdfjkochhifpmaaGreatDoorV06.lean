import Derived.Test.YtdfjkochhifpmaaGreatDoorV05
import Derived.OpenShut
import Derived.ChangeArms
import Derived.Maps.RangeRun
set_option linter.unusedSimpArgs false
set_option linter.unusedVariables false
namespace Go.Ax
theorem x3D{C:Ctx}{t:TypeId}{x k:AV}{ok:Bool}{h:Hp}{v:AV}(hv:q3b C t x k ok h=some v):(∃r,x= .map r)∨q0z x= []:=by
 unfold q3b at hv
 split at hv
 case h_2=>cases hv
 split at hv
 case h_2=>cases hv
 split at hv
 case h_2=>cases hv
 rename_i hm
 unfold z8U at hm
 split at hm
 ·exact .inr rfl
 ·exact .inl ⟨_,rfl⟩
 ·cases hm
section
variable{P:Program}{F:Nat→Option Obj}{gl:Nat→AV}{eqT:Knob}
variable{ih:Code→St→Res}{ops:Array Oper}{S:Nat→St}{fp:Nat→FP}{m0:Loc}{w0:World}{L:Nat→Prop}
theorem z9H{s s':St}{o:Oper}(h:∀g w y d,o.guard=some (g,w)→ops[g]? =some y→y.dst=some d→tget s.tm d=tget s'.tm d):q6u ops.toList s o=q6u ops.toList s' o:=by
  unfold q6u
  cases hg:o.guard with
  |none=>rfl
  | some p=>
    obtain⟨g,w⟩:=p
    dsimp only
    cases hy:ops.toList[g]? with
    |none=>rfl
    | some y=>
      have hy':ops[g]? =some y:=by simpa using hy
      dsimp only
      cases hd:y.dst with
      |none=>rfl
      |some d=>dsimp only;rw[h g w y d hg hy' hd]
theorem Inv.step(R:Reg P F gl eqT ih ops S fp m0 w0){m:Loc}{a:Act}{w:World}{i:Nat}{o:Oper}{fe:Fence}{k:Nat}{K:Act→World→Prop}{Q:Exit→Act→World→Prop}(ho:ops[i]? =some o)(hI:Inv P F ops S fp m0 w0 L m a w)(hn:¬L i)(hr:After ops L i)
    (hfe:FenRel m (S 0).rd fe) (hK:∀m' a' w',Loc.le m m'→Inv P F ops S fp m0 w0 (fun j=>L j∨j=i) m' a' w'→K a' w'):wpOpIn fe k P ops Q i K a w:=by
  have hi:i<ops.size:=(Y0s.1 ho).1
  have before:∀j,q0E (masks [] ops.toList) i j=true→L j:=fun j=>q9B hI.closed i j hr
  have behind:∀j,q0E (masks [] ops.toList) j i=true→¬L j:=fun j hm hl=>hn (q9B hI.closed j i (hI.closed j hl) hm)
  have lv:=R.lv ho
  obtain⟨sn,srd,sds,_⟩:=R.same_n i (by omega)
  have nxm:∀{i:Nat} (j:Nat),i≤j→j≤ops.size→(S i).h.nx≤(S j).h.nx:=fun{i} j=>R.nx (i:=i) j
  have tmAt:∀t,(∀j o',ops[j]? =some o'→o'.dst=some t→(j<i→q0E (masks [] ops.toList) i j=true)∧(i<j→q0E (masks [] ops.toList) j i=true))→TV S ops L t=tget (S i).tm t:=fun t h=>by
    refine R.tv_at (by omega) (fun j hj ⟨o',h1,h2⟩=>before j ((h j o' h1 h2).1 hj)) (fun j hj _ ⟨o',h1,h2⟩=> ?_)
    by_cases he:j=i
    ·subst he;exact hn
    ·exact behind j ((h j o' h1 h2).2 (by omega))
  have tmNext:∀t,(∀j o',ops[j]? =some o'→o'.dst=some t→(j<i→q0E (masks [] ops.toList) i j=true)∧(i<j→q0E (masks [] ops.toList) j i=true))→TV S ops (fun j=>L j∨j=i) t=tget (S (i+1)).tm t:=fun t h=>by
    refine R.tv_at (by omega) (fun j hj ⟨o',h1,h2⟩=> ?_) (fun j hj _ ⟨o',h1,h2⟩ hl=> ?_)
    · by_cases he:j=i
      ·exact .inr he
      ·exact .inl (before j ((h j o' h1 h2).1 (by omega)))
    · rcases hl with hl|hl
      ·exact behind j ((h j o' h1 h2).2 (by omega)) hl
      ·omega
  obtain⟨T,hT,hTR⟩:=hI.tm
  have looksOp:∀t,Operand.tmp t∈o.op.operands→tget T t=tget (S i).tm t:=fun t ht=>by
    rw[hT]
    refine tmAt t fun j o' h1 h2=>⟨fun hj=> ?_,fun hj=> ?_⟩
    · rcases q6E R.hok hj h1 ho with h|h
      ·exact h
      ·exact absurd rfl ((h.pq t h2).1 _ ht)
    · rcases q6E R.hok hj ho h1 with h|h
      ·exact h
      ·exact absurd rfl ((h.qp t h2).1 _ ht)
  have looksG:∀g w y d,o.guard=some (g,w)→ops[g]? =some y→y.dst=some d→tget T d=tget (S i).tm d:=fun g w y d hg hy hd=>by
    rw[hT]
    refine tmAt d fun j o' h1 h2=>⟨fun hj=> ?_,fun hj=> ?_⟩
    · rcases q6E R.hok hj h1 ho with h|h
      ·exact h
      ·exact absurd hd ((h.pq d h2).2 g w hg y hy)
    · rcases q6E R.hok hj ho h1 with h|h
      ·exact h
      ·exact absurd hd ((h.qp d h2).2 g w hg y hy)
  have putT:∀(m':Loc) (v:AV) (cv:Value) (h:Hp),Loc.le m m'→VRel P F m' v cv→putD (S i) o.dst v h=some (S (i+1))→∃T',(∀t,tget T' t=TV S ops (fun j=>L j∨j=i) t)∧TRel P F m' T' (S 0).n (a.put o.dst cv).tmps:=by
    intro m' v cv h hle hv hp
    cases hd:o.dst with
    | none=>
      refine⟨T,fun t=> ?_,hTR.mono hle⟩
      rw[hT]
      refine R.tv_same fun j _ ⟨o',h1,h2⟩=>⟨.inl,fun hl=>hl.elim id fun he=> ?_⟩
      subst he;rw[ho]at h1;cases h1;rw[hd]at h2;cases h2
    | some d=>
      rw[hd]at hp
      obtain⟨e1,e2⟩:=putD_at hp
      refine⟨T.set d v,fun t=> ?_,(hTR.mono hle).put (by rw[←sn];exact e2) hv⟩
      rw[q4o]
      by_cases he:d=t
      · subst he
        rw[Y0e rfl,tmNext d fun j o' h1 h2=>⟨fun hj=> ?_,fun hj=> ?_⟩,e1]
        · rcases q6E R.hok hj h1 ho with h|h
          ·exact h
          ·exact absurd hd (h.dd d h2)
        · rcases q6E R.hok hj ho h1 with h|h
          ·exact h
          ·exact absurd h2 (h.dd d hd)
      · rw[Y0c he,hT]
        refine R.tv_same fun j _ ⟨o',h1,h2⟩=>⟨.inl,fun hl=>hl.elim id fun hj=> ?_⟩
        subst hj;rw[ho]at h1;cases h1;rw[hd]at h2;cases h2;exact absurd rfl he
  have hA:ARel P F m {S i with tm:=T} a:=⟨by show TRel P F m T (S i).n a.tmps;rw[sn];exact hTR,by show DsRel P F m (S i).ds a.defers;rw[sds];exact hI.ds⟩
  have hW:q6u ops.toList {S i with tm:=T} o=q6u ops.toList (S i) o:=z9H looksG
  have closed':∀j,(L j∨j=i)→After ops (fun j=>L j∨j=i) j:=fun j hj o' h1 e he hh=>by
    rcases hj with hj|rfl
    ·exact .inl (hI.closed j hj o' h1 e he hh)
    ·exact .inl (hr o' h1 e he hh)
  have sub':∀j,(L j∨j=i)→j<ops.size:=fun j hj=>hj.elim (hI.sub j) fun e=>e▸hi
  have putds:∀cv,(a.put o.dst cv).defers=a.defers:=fun cv=>by cases o.dst<;>rfl
  have hsame:∀r,¬((fp i).made r∨((fp i).turns r∧r<(S i).h.nx))→HV S fp ops.size (fun j=>L j∨j=i) r=HV S fp ops.size L r:=fun r h=>
    (R.hv_same fun j _ hu=>⟨.inl,fun hl=>hl.elim id fun e=>absurd (e▸hu) h⟩).symm
  have hmade:∀r,(fp i).made r→HV S fp ops.size (fun j=>L j∨j=i) r=(S (i+1)).h.get r:=fun r hm=>by
    have hmr:=R.made hi hm
    refine R.hv_at (by omega) (fun j hj hu=> ?_) (fun j hj hjs hu hl=> ?_)
    · by_cases he:j=i
      ·exact .inr he
      · rcases hu with hu|⟨_,hu⟩
        ·exact .inr (R.made_eq (by omega) hi hu hm)
        ·have:=nxm (i:=j) i (by omega) (by omega);omega
    · rcases hl with hl|hl
      · by_cases he:i=j
        ·exact hn (he▸hl)
        ·exact behind j (R.used (by omega) hjs (.inl hm) hu) hl
      ·omega
  have hturn:∀r,r<(S i).h.nx→(fp i).turns r→(∀j,j<i→(fp j).made r→L j)→HV S fp ops.size (fun j=>L j∨j=i) r=(S (i+1)).h.get r:=fun r hlt ht hmj=>by
    refine R.hv_at (by omega) (fun j hj hu=> ?_) (fun j hj hjs hu hl=> ?_)
    · by_cases he:j=i
      ·exact .inr he
      · rcases hu with hu|⟨hu,hu2⟩
        ·exact .inl (hmj j (by omega) hu)
        ·exact .inl (before j (R.used (by omega) hi (.inr ⟨hu,hu2⟩) (.inr ⟨ht,hlt⟩)))
    · rcases hu with hu|⟨hu,hu2⟩
      · have:=R.made hjs hu
        have:=nxm (i:=i) j (by omega) (by omega);omega
      · rcases hl with hl|hl
        ·exact behind j (R.used (by omega) hjs (.inr ⟨ht,hlt⟩) (.inr ⟨hu,hu2⟩)) hl
        ·omega
  have hsee:(∀h,(fp i).ld h=none)→∀r,r<(S i).h.nx→(fp i).sees r→(∀j,j<i→(fp j).made r→L j)→HV S fp ops.size L r=(S i).h.get r:=fun hnl r hlt ht hmj=>by
    refine R.hv_at (by omega) (fun j hj hu=> ?_) (fun j hj hjs hu hl=> ?_)
    · rcases hu with hu|⟨hu,hu2⟩
      ·exact hmj j hj hu
      ·exact before j (R.mask hj hi (R.noLd (r:=r) (by omega) (.inr ⟨hu,hu2⟩)) hnl (z4U hu ht (by obtain⟨oj,hoj⟩:=R.op (show j<ops.size by omega);rw[(R.lv hoj).nl];exact hu2)))
    · by_cases he:j=i
      ·exact hn (he▸hl)
      · rcases hu with hu|⟨hu,hu2⟩
        · have:=R.made hjs hu
          have:=nxm (i:=i) j (by omega) (by omega);omega
        ·exact behind j (R.mask (by omega) hjs hnl (R.noLd (r:=r) hjs (.inr ⟨hu,hu2⟩)) (z8I ht hu)) hl
  have hAt:=R.hat i o ho
  unfold wpOpIn
  simp only[ho]
  cases hAt with
  | skip hw hp hf=>
    have hwt:=q5d hA (hW.trans hw)
    rw[hwt]
    simp only[Y1l,Y1m]
    refine⟨fun f _=>hfe.fn f,hK m _ w (Y0h m) ⟨sub',closed',?_,fun r c h1 h2=> ?_,putT m _ _ _ (Y0h m) (z6L m) hp,by rw[putds];exact hI.ds⟩⟩
    · have e:HLof S fp ops.size (fun j=>L j∨j=i)=HLof S fp ops.size L:=by
        unfold HLof
        rw[show(fun r=>HV S fp ops.size (fun j=>L j∨j=i) r)=fun r=>HV S fp ops.size L r from funext fun r=>hsame r fun hu=> ?_]
        rw[hf]at hu
        rcases hu with hu|⟨hu,hu2⟩
        ·have h1:=hu.1;have h2:=hu.2;dsimp only at h1 h2;omega
        ·cases hu
      rw[e];exact hI.core
    · obtain⟨k,h3,h4⟩:=hI.names r c h1 h2
      exact⟨k,.inl h3,h4⟩
  | go v h hw hop hp hf=>
    have hwt:=q5d hA (hW.trans hw)
    rw[hwt]
    simp only[Y1n]
    obtain⟨p1,_,_,_⟩:=x2T hp
    have e2:∀r,(S (i+1)).h.get r=h.get r:=fun r=>by rw[p1];rfl
    have e1:(S (i+1)).h.nx=h.nx:=by rw[p1]
    have finish:∀gi g',opA P (Ctx.of P gl eqT) ih {S i with tm:=T,h:=gi} o=some (.val v g')→gi.nx=(S i).h.nx→g'.nx=(S (i+1)).h.nx→WF gi→(∀r,r<(S i).h.nx→m r≠none→gi.get r=HV S fp ops.size L r)→
        (∀r,r<(S (i+1)).h.nx→(r<(S i).h.nx→m r≠none)→g'.get r=HV S fp ops.size (fun j=>L j∨j=i) r)→o.wpIn fe k P a w K Q:=by
      intro gi g' hop' hgi hg' hwi hAg hB
      obtain⟨v',h2,he,q1,q2,q3⟩:=x2U R.hP R.hih hop' (x7M hop' nofun)
      cases he
      have lt_i:∀{r q},gi.get r=some q→r<(S i).h.nx:=fun{r q} hg=>by
        rcases Y1w r (S i).h.nx with h'|h'
        ·exact h'
        ·rw[hwi r (by omega)]at hg;cases hg
      have up:∀{r q c},gi.get r=some q→m r=some c→(HLof S fp ops.size L).get r=some q:=fun{r q c} hg hm=>by
        rw[R.get_hl,←hAg r (lt_i hg) (by rw[hm];exact nofun)];exact hg
      have rel:=hI.core.rel
      have hrel:HRel P F m gi w:=⟨fun r q b z hg hm=>rel.obj r q b z (up hg hm) hm,fun r s q p b y z hg hl hg' hl' hm hm'=>rel.inj r s q p b y z (up hg hm) hl (up hg' hm') hl' hm hm',fun r q b z hg hl hm=>rel.out r q b z (up hg hm) hl hm,rel.frz,hwi⟩
      have hfree:Free m gi g':=fun r h1 h2=>by
        cases hm:m r with
        |none=>rfl
        | some c=>
          have hmd:=R.of_made hi (r:=r) (by omega) (by omega)
          obtain⟨k',h3,h4⟩:=hI.names r c hm (R.made_new hi hmd)
          have:=R.made_eq (hI.sub k' h3) hi h4 hmd
          exact absurd (this▸h3) hn
      refine(q3 m a w hrel (by show TRel P F m T (S i).n a.tmps;rw[sn];exact hTR) hfree).wp q2 hfe fun m' cv w' hs hv=>hK m' _ w' hs.le ⟨sub',closed',?_,fun r c h1 h2=> ?_,putT m' _ _ _ hs.le hv hp,by rw[putds];exact hI.ds.mono hs.le⟩
      · refine hI.core.trans (Core.of_part rel hs hwi (fun r h1 h2=>by rw[R.get_hl];exact hAg r (by rw[←hgi];exact h1) h2) (fun r h1 h2=> ?_) (fun r h1=> ?_) (fun r h1=> ?_))
        · rw[R.get_hl]
          refine hB r (by rw[←hg'];exact h1) fun h3 hm=> ?_
          cases hm':m' r with
          |none=>exact h2 hm'
          | some c=>
            have h4:gi.nx≤r:=(hs.new r c hm' hm).1
            omega
        · rw[R.get_hl,R.get_hl]
          refine hsame r fun hu=> ?_
          have h5:(S (i+1)).h.nx≤r:=by rw[←hg'];exact h1
          rcases hu with hu|⟨_,hu⟩
          ·have:=R.made hi hu;omega
          ·have:=lv.nx;omega
        · rw[R.get_hl]
          exact R.hv_high h1
      · cases hm:m r with
        |some d=>obtain⟨k',h3,h4⟩:=hI.names r d hm h2;exact⟨k',.inl h3,h4⟩
        | none=>
          have h4:=hs.new r c h1 hm
          have h5:gi.nx≤r:=h4.1
          have h6:r<g'.nx:=h4.2
          exact⟨i,.inr rfl,R.of_made hi (by omega) (by omega)⟩
    have hev:∀x∈o.op.operands,(S i).ev (Ctx.of P gl eqT) x=({S i with tm:=T}:St).ev (Ctx.of P gl eqT) x:=fun x hx=>by
      cases x with
      |tmp t=>exact(looksOp t hx).symm
      |const v=>rfl
      |global g=>rfl
      |func f=>rfl
    have loadCase:∀t x rd wr,o.op= .load t x→fpOf (Ctx.of P gl eqT) (S i) o=some (rd,wr)→fp i={i:=i,rd:=some rd,wr:=some wr,nl:=(S i).h.nx,nh:=h.nx,ld:=ldOf (Ctx.of P gl eqT) (S i) o,h0:=(S i).h,h1:=h}→o.wpIn fe k P a w K Q:=by
      intro t x rd wr hox hfp hfi
      have hmem:x∈o.op.operands:=by rw[hox];show x∈ #[x];simp
      have hx0:=hev x hmem
      have hop2:=hop
      unfold opA at hop2
      rw[hox]at hop2
      dsimp only at hop2
      obtain⟨y,hv0,hvh⟩:=q0M hop2
      cases hvh
      have hxe:({S i with h:={(S i).h with lo:=(S i).h.nx}}:St).ev (Ctx.of P gl eqT) x=(S i).ev (Ctx.of P gl eqT) x:=by cases x<;>rfl
      rw[hxe]at hv0
      have hrw:q0z ((S i).ev (Ctx.of P gl eqT) x)=rd∧[]=wr:=by
        unfold fpOf at hfp
        rw[hox]at hfp
        dsimp only at hfp
        cases hfp;exact⟨rfl,rfl⟩
      obtain⟨hrd,hwr⟩:=hrw
      have hld:(fp i).ld=fun g=>loadAt (Ctx.of P gl eqT) t ((S i).ev (Ctx.of P gl eqT) x) g:=by rw[hfi];unfold ldOf;rw[hox]
      let gi:Hp:={nx:=(S i).h.nx,m:=trOf (fun r=>HV S fp ops.size L r) (S i).h.nx .e,lo:=0}
      have ggi:∀r,gi.get r=if r<(S i).h.nx then HV S fp ops.size L r else none:=fun r=>x4L _ _ _
      have hv1:loadAt (Ctx.of P gl eqT) t ((S i).ev (Ctx.of P gl eqT) x) (S i).h=some v:=by rw[←hv0];exact z1H fun r _=>rfl
      have main:loadAt (Ctx.of P gl eqT) t ((S i).ev (Ctx.of P gl eqT) x) gi=some v:=by
        generalize hp0:(S i).ev (Ctx.of P gl eqT) x=p0 at hrd hld hv1
        by_cases hptr:∃r o,p0= .ptr r o
        · obtain⟨r,o0,rfl⟩:=hptr
          have hnone:∀g:Hp,g.get r=none→loadAt (Ctx.of P gl eqT) t (.ptr r o0) g=none:=fun g hg=>by
            unfold loadAt
            split
            ·rfl
            ·dsimp only;rw[hg]
          have hlt:r<(S i).h.nx:=by
            rcases Y1w r (S i).h.nx with h|h
            ·exact h
            ·rw[hnone _ (R.wf i (by omega) r h)]at hv1;cases hv1
          exact R.load (r:=r) (L:=L) hi hn (fun j k' hk hmk=>q9B hI.closed k' j (hI.closed k' hk) hmk) before hld (by rw[hfi,←hrd];rfl) (fun g h' he=>z1H fun r' hr'=>by cases Y2d.1 hr';exact he) hv1 hnone (by rw[ggi,Y0e hlt])
        · rw [←hv1]
          exact z1H fun r hr'=>by
            cases p0<;>first
              |exact absurd ⟨_,_,rfl⟩ hptr
              |(cases hr';done)
              |(unfold loadAt at hv1;split at hv1<;>cases hv1)
      have hop':opA P (Ctx.of P gl eqT) ih {S i with tm:=T,h:=gi} o=some (.val v gi):=by
        have hxe2:({S i with tm:=T,h:=gi}:St).ev (Ctx.of P gl eqT) x=(S i).ev (Ctx.of P gl eqT) x:=by rw[hx0];cases x<;>rfl
        unfold opA
        rw[hox]
        dsimp only
        rw[hxe2,main]
        rfl
      refine finish gi gi hop' rfl (by rw[e1]) (fun r hr'=>by rw[ggi,Y0c (by have:(S i).h.nx≤r:=hr';omega)]) (fun r hlt _=>by rw[ggi,Y0e hlt]) fun r hlt _=> ?_
      rcases Y1w r (S i).h.nx with h1|h1
      · rw[hsame r (fun hu=> ?_),ggi,Y0e h1]
        rcases hu with hu|⟨hu,_⟩
        ·have:=R.made hi hu;omega
        ·rw[hfi,←hwr]at hu;cases hu
      · rw[e1]at hlt
        have hlt:r<(S i).h.nx:=hlt
        omega
    have lookCase:∀t x kx ok rd wr,o.op= .lookup t x kx ok→fpOf (Ctx.of P gl eqT) (S i) o=some (rd,wr)→fp i={i:=i,rd:=some rd,wr:=some wr,nl:=(S i).h.nx,nh:=h.nx,ld:=ldOf (Ctx.of P gl eqT) (S i) o,h0:=(S i).h,h1:=h}→o.wpIn fe k P a w K Q:=by
      intro t x kx ok rd wr hox hfp hfi
      have hmem:x∈o.op.operands:=by rw[hox];show x∈ #[x,kx];simp
      have hmem2:kx∈o.op.operands:=by rw[hox];show kx∈ #[x,kx];simp
      have hx0:=hev x hmem
      have hk0:=hev kx hmem2
      have hop2:=hop
      unfold opA at hop2
      rw[hox]at hop2
      dsimp only at hop2
      obtain⟨y,hv0,hvh⟩:=q0M hop2
      cases hvh
      have hxe:({S i with h:={(S i).h with lo:=(S i).h.nx}}:St).ev (Ctx.of P gl eqT) x=(S i).ev (Ctx.of P gl eqT) x:=by cases x<;>rfl
      have hke:({S i with h:={(S i).h with lo:=(S i).h.nx}}:St).ev (Ctx.of P gl eqT) kx=(S i).ev (Ctx.of P gl eqT) kx:=by cases kx<;>rfl
      rw[hxe,hke]at hv0
      have hrw:q0z ((S i).ev (Ctx.of P gl eqT) x)=rd∧[]=wr:=by
        unfold fpOf at hfp
        rw[hox]at hfp
        dsimp only at hfp
        cases hfp;exact⟨rfl,rfl⟩
      obtain⟨hrd,hwr⟩:=hrw
      have hld:(fp i).ld=fun g=>q3b (Ctx.of P gl eqT) t ((S i).ev (Ctx.of P gl eqT) x) ((S i).ev (Ctx.of P gl eqT) kx) ok g:=by rw[hfi];unfold ldOf;rw[hox]
      let gi:Hp:={nx:=(S i).h.nx,m:=trOf (fun r=>HV S fp ops.size L r) (S i).h.nx .e,lo:=0}
      have ggi:∀r,gi.get r=if r<(S i).h.nx then HV S fp ops.size L r else none:=fun r=>x4L _ _ _
      have hv1:q3b (Ctx.of P gl eqT) t ((S i).ev (Ctx.of P gl eqT) x) ((S i).ev (Ctx.of P gl eqT) kx) ok (S i).h=some v:=by rw[←hv0];exact q9C fun r _=>rfl
      have main:q3b (Ctx.of P gl eqT) t ((S i).ev (Ctx.of P gl eqT) x) ((S i).ev (Ctx.of P gl eqT) kx) ok gi=some v:=by
        generalize hp0:(S i).ev (Ctx.of P gl eqT) x=p0 at hrd hld hv1
        rcases x3D hv1 with⟨r,rfl⟩|hnr
        · have hnone:∀g:Hp,g.get r=none→q3b (Ctx.of P gl eqT) t (.map r) ((S i).ev (Ctx.of P gl eqT) kx) ok g=none:=fun g hg=>by
            cases hl:q3b (Ctx.of P gl eqT) t (.map r) ((S i).ev (Ctx.of P gl eqT) kx) ok g with
            |none=>rfl
            | some u=>
              unfold q3b z8U at hl
              dsimp only at hl
              rw[hg]at hl
              dsimp only at hl
              split at hl
              ·split at hl<;>cases hl
              ·cases hl
          have hlt:r<(S i).h.nx:=by
            rcases Y1w r (S i).h.nx with h|h
            ·exact h
            ·rw[hnone _ (R.wf i (by omega) r h)]at hv1;cases hv1
          exact R.load (r:=r) (L:=L) hi hn (fun j k' hk hmk=>q9B hI.closed k' j (hI.closed k' hk) hmk) before hld (by rw[hfi,←hrd];rfl) (fun g h' he=>q9C fun r' hr'=>by cases Y2d.1 hr';exact he) hv1 hnone (by rw[ggi,Y0e hlt])
        · rw[←hv1]
          exact q9C fun r hr'=>by rw[hnr]at hr';cases hr'
      have hop':opA P (Ctx.of P gl eqT) ih {S i with tm:=T,h:=gi} o=some (.val v gi):=by
        have hxe2:({S i with tm:=T,h:=gi}:St).ev (Ctx.of P gl eqT) x=(S i).ev (Ctx.of P gl eqT) x:=by rw[hx0];cases x<;>rfl
        have hke2:({S i with tm:=T,h:=gi}:St).ev (Ctx.of P gl eqT) kx=(S i).ev (Ctx.of P gl eqT) kx:=by rw[hk0];cases kx<;>rfl
        unfold opA
        rw[hox]
        dsimp only
        rw[hxe2,hke2,main]
        rfl
      refine finish gi gi hop' rfl (by rw[e1]) (fun r hr'=>by rw[ggi,Y0c (by have:(S i).h.nx≤r:=hr';omega)]) (fun r hlt _=>by rw[ggi,Y0e hlt]) fun r hlt _=> ?_
      rcases Y1w r (S i).h.nx with h1|h1
      · rw[hsame r (fun hu=> ?_),ggi,Y0e h1]
        rcases hu with hu|⟨hu,_⟩
        ·have:=R.made hi hu;omega
        ·rw[hfi,←hwr]at hu;cases hu
      · rw[e1]at hlt
        have hlt:r<(S i).h.nx:=hlt
        omega
    cases hfp:fpOf (Ctx.of P gl eqT) (S i) o with
    | some p=>
      obtain⟨rd,wr⟩:=p
      have hfi:fp i={i:=i,rd:=some rd,wr:=some wr,nl:=(S i).h.nx,nh:=h.nx,ld:=ldOf (Ctx.of P gl eqT) (S i) o,h0:=(S i).h,h1:=h}:=by rw[hf];unfold fpAt;rw[hfp]
      by_cases hld:∃t x,o.op= .load t x
      · obtain⟨t,x,hox⟩:=hld
        exact loadCase t x rd wr hox hfp hfi
      by_cases hlk:∃t x kx ok,o.op= .lookup t x kx ok
      · obtain⟨t,x,kx,ok,hox⟩:=hlk
        exact lookCase t x kx ok rd wr hox hfp hfi
      have hnl:∀h,(fp i).ld h=none:=fun g=>by rw[hfi];exact x1k (fun t x e=>hld ⟨t,x,e⟩) (fun t x k ok e=>hlk ⟨t,x,k,ok,e⟩) g
      have madeL:∀r,r∈rd→∀j,j<i→(fp j).made r→L j:=fun r hr' j hj hm=>before j (R.mask hj hi (R.noLd (r:=r) (by omega) (.inl hm)) hnl (z0S hm (by rw[hfi]) hr'))
      have sees:∀r,r∈rd→(fp i).sees r:=fun r hr'=>by rw[hfi];exact hr'
      let gi:Hp:={nx:=(S i).h.nx,m:=trOf (fun r=>HV S fp ops.size L r) (S i).h.nx .e,lo:=0}
      have ggi:∀r,gi.get r=if r<(S i).h.nx then HV S fp ops.size L r else none:=fun r=>x4L _ _ _
      have hg:∀r∈rd,gi.get r=(S i).h.get r:=fun r hr'=>by
        rw[ggi]
        by_cases hlt:r<(S i).h.nx
        ·rw[Y0e hlt];exact hsee hnl r hlt (sees r hr') (madeL r hr')
        ·rw[Y0c hlt];exact(R.wf i (by omega) r (by omega)).symm
      obtain⟨g',q1,q2,q3⟩:=x2V (s:={S i with h:={(S i).h with lo:=(S i).h.nx}}) (s':={S i with tm:=T,h:=gi}) (rd:=rd) (wr:=wr) (by rw[←hfp];exact x1o) hop
        (fun x hx=>by have:=hev x hx;cases x<;>exact this) rfl hg
      have q2nx:g'.nx=h.nx:=q2.nx
      have q2inn:∀r,(r∈wr∨((S i).h.nx≤r∧r<h.nx))→g'.get r=h.get r:=q2.inn
      have q2out:∀r,r∉wr→¬((S i).h.nx≤r∧r<h.nx)→g'.get r=gi.get r∧h.get r=(S i).h.get r:=q2.out
      refine finish gi g' q1 rfl (by rw[e1];exact q2nx) (fun r hr'=>by rw[ggi,Y0c (by have:(S i).h.nx≤r:=hr';omega)]) (fun r hlt _=>by rw[ggi,Y0e hlt]) fun r hlt _=> ?_
      rcases Y1w r (S i).h.nx with h1|h1
      · by_cases hw':r∈wr
        · rw[hturn r h1 (by rw[hfi];exact hw') (madeL r (q3 r hw')),e2]
          exact q2inn r (.inl hw')
        · rw[hsame r (fun hu=> ?_),(q2out r hw' (by omega)).1,ggi,Y0e h1]
          rcases hu with hu|⟨hu,hu2⟩
          ·have:=R.made hi hu;omega
          ·rw[hfi]at hu;exact hw' hu
      · rw[hmade r (R.of_made hi h1 hlt),e2]
        exact q2inn r (.inr ⟨h1,by rw[←e1];exact hlt⟩)
    | none =>
      have hrd:(fp i).rd=none:=by rw[hf];unfold fpAt;rw[hfp]
      have hnl:∀h,(fp i).ld h=none:=fun g=>by rw[hf];unfold fpAt;rw[hfp]
      have sees:∀r,(fp i).sees r:=fun r=>by unfold FP.sees;rw[hrd];trivial
      have madeL:∀r,m r≠none→∀j,j<i→(fp j).made r→L j:=fun r hm j hj hmd=>by
        cases hmr:m r with
        |none=>exact absurd hmr hm
        | some c=>
          obtain⟨k',h3,h4⟩:=hI.names r c hmr (R.made_new (by omega) hmd)
          have:=R.made_eq (hI.sub k' h3) (by omega) h4 hmd
          exact this▸h3
      have hop':opA P (Ctx.of P gl eqT) ih {S i with tm:=T,h:={(S i).h with lo:=(S i).h.nx}} o=some (.val v h):=by
        rw[←hop]
        exact(q7T (C:=Ctx.of P gl eqT) (s:={S i with h:={(S i).h with lo:=(S i).h.nx}}) (s':={S i with tm:=T,h:={(S i).h with lo:=(S i).h.nx}}) rfl fun x hx=>by have:=hev x hx;cases x<;>exact this).symm
      refine finish _ h hop' rfl e1.symm (R.wf i (by omega)) (fun r hlt hm=>(hsee hnl r hlt (sees r) (madeL r hm)).symm) fun r hlt hm=> ?_
      rcases Y1w r (S i).h.nx with h1|h1
      · by_cases ht:(fp i).turns r
        ·rw[hturn r h1 ht (madeL r (hm h1)),e2]
        · have hu:¬((fp i).made r∨((fp i).turns r∧r<(S i).h.nx)):=fun hu=>by
            rcases hu with hu|⟨hu,hu2⟩
            ·have:=R.made hi hu;omega
            ·exact ht hu
          rw[hsame r hu,hsee hnl r h1 (sees r) (madeL r (hm h1)),←e2,R.frame hi hu]
      ·rw[hmade r (R.of_made hi h1 hlt),e2]
end
end Go.Ax
namespace Go.Ax
section
variable{P:Program}{F:Nat→Option Obj}{gl:Nat→AV}{eqT:Knob}
variable{ih:Code→St→Res}{ops:Array Oper}{S:Nat→St}{fp:Nat→FP}{m0:Loc}{w0:World}
def Marked(ops:Array Oper)(listed:Array Bool)(i:Nat):Prop:=i<ops.size∧listed.getD i false=true
theorem z8P(e:Edge):Region.binds .any e=hard e:=by
 obtain⟨_,g⟩:=e
 cases g<;>rfl
theorem z6P{listed:Array Bool}(hs:listed.size=ops.size){i:Nat}:i∈Region.ready .any ops listed↔i<ops.size∧¬Marked ops listed i∧∀o,ops[i]? =some o→∀e∈o.after.toList,hard e=true→listed.getD e.on false=true:=by
  unfold Region.ready
  rw[List.mem_filter,Y2o]
  constructor
  · rintro⟨h1,h2⟩
    have ho:ops[i]? =some ops[i]:=Y0M h1
    rw[ho]at h2
    simp only[Option.map_some,Y2p,Y1X,Y2q]at h2
    refine⟨h1,fun hm=> ?_,fun o ho' e he hh=> ?_⟩
    · have:listed.getD i true=listed.getD i false:=by simp[Array.getD,hs,h1]
      rw[this,hm.2]at h2;cases h2.1
    · rw[ho]at ho';cases ho'
      have:=(Y2r.1 h2.2) e (by simpa using he)
      have hb:Region.binds .any e=true:=(z8P e).trans hh
      rw[hb]at this
      simpa using this
  · rintro⟨h1,h2,h3⟩
    have ho:ops[i]? =some ops[i]:=Y0M h1
    refine⟨h1,?_⟩
    rw[ho]
    simp only[Option.map_some,Y2p,Y1X,Y2q]
    constructor
    · have:listed.getD i true=listed.getD i false:=by simp[Array.getD,hs,h1]
      rw[this]
      cases hb:listed.getD i false with
      |false=>rfl
      |true=>exact absurd ⟨h1,hb⟩ h2
    · rw[Y2r]
      intro e he
      cases hh:hard e with
      |true=>rw[h3 _ ho e (by simpa using he) hh];simp
      | false=>
        have hb:Region.binds .any e=false:=(z8P e).trans hh
        rw[hb];rfl
def left(ops:Array Oper)(listed:Array Bool):Nat→Nat
 |0=>0
 |k+1=>left ops listed k+(bif listed.getD k false then 0 else 1)
theorem x1j{listed:Array Bool}:∀k,left ops listed k=0→∀j,j<k→listed.getD j false=true
  |0,_,j,hj=>by omega
  | k +1,h,j,hj=>by
    unfold left at h
    cases hb:listed.getD k false with
    | true=>
      by_cases he:j=k
      ·rw[he];exact hb
      ·exact x1j k (by omega) j (by omega)
    |false=>rw[hb]at h;simp at h
theorem x5e{listed:Array Bool}{i:Nat}(hs:i<listed.size)(hi:listed.getD i false=false):∀k,left ops (listed.setIfInBounds i true) k+(if i<k then 1 else 0)=left ops listed k
  |0=>rfl
  | k + 1=>by
    have ih:=x5e hs hi k
    have hg:(listed.setIfInBounds i true).getD k false=if i=k then true else listed.getD k false:=by
      by_cases he:i=k
      ·subst he;rw[Y0e rfl];simp[Array.getD,hs]
      ·rw[Y0c he];simp[Y1M,Y1G he]
    unfold left
    rw[hg]
    by_cases he:i=k
    · subst he
      rw[Y0e rfl,hi]
      simp only[Y0V,Y1b,Nat.lt_irrefl,Y1m,Y0B,Y1n]at ih⊢
      omega
    · rw[Y0c he]
      by_cases hlt:i<k
      · rw[Y0e hlt]at ih
        rw[Y0e (by omega)]
        omega
      · rw[Y0c hlt]at ih
        rw[Y0c (by omega)]
        omega
theorem Inv.congr{L L':Nat→Prop}{m:Loc}{a:Act}{w:World}(h:∀j,L j↔L' j)(hI:Inv P F ops S fp m0 w0 L m a w):Inv P F ops S fp m0 w0 L' m a w:=by
 have e:L=L':=funext fun j=>propext (h j)
 exact e▸hI
theorem Inv.run(R:Reg P F gl eqT ih ops S fp m0 w0){fe:Fence}{k:Nat}{Q:Exit→Act→World→Prop}(hQ:∀m a w,(∀j,j<ops.size→True)→Inv P F ops S fp m0 w0 (fun j=>j<ops.size) m a w→Q .normal a w):
    ∀(fuel:Nat) (listed:Array Bool) (m:Loc) (a:Act) (w:World),listed.size=ops.size→left ops listed ops.size≤fuel→Inv P F ops S fp m0 w0 (Marked ops listed) m a w→FenRel m (S 0).rd fe→wpAnyIn fe k P .any ops Q fuel listed a w:=by
  have done:∀(listed:Array Bool) (m:Loc) (a:Act) (w:World),listed.size=ops.size→Inv P F ops S fp m0 w0 (Marked ops listed) m a w→Region.ready .any ops listed= []→∀j,j<ops.size→listed.getD j false=true:=by
    intro listed m a w hs hI hr j
    induction j using Nat.strongRecOn with
    | _ j ihj=>
      intro hj
      cases hb:listed.getD j false with
      |true=>rfl
      | false=>
        exfalso
        have:j∈Region.ready .any ops listed:=(z6P hs).2 ⟨hj,fun hm=>(by rw[hm.2]at hb;cases hb),fun o ho e he hh=>by
          have hlt:=z7o R.hok ho e he hh
          exact ihj e.on hlt (by omega)⟩
        rw[hr]at this;cases this
  have fin:∀(listed:Array Bool) (m:Loc) (a:Act) (w:World),listed.size=ops.size→Inv P F ops S fp m0 w0 (Marked ops listed) m a w→(∀j,j<ops.size→listed.getD j false=true)→Q .normal a w:=fun listed m a w hs hI hall=>
    hQ m a w (fun _ _=>trivial) (hI.congr fun j=>⟨fun h=>h.1,fun h=>⟨h,hall j h⟩⟩)
  intro fuel
  induction fuel with
  | zero=>
    intro listed m a w hs hl hI hf
    have hall:∀j,j<ops.size→listed.getD j false=true:=x1j (ops:=ops) (listed:=listed) ops.size (by omega)
    refine⟨?_,fin listed m a w hs hI hall⟩
    cases hr:Region.ready .any ops listed with
    |nil=>rfl
    | cons i l=>
      exfalso
      have:=(z6P hs).1 (by rw[hr];exact Y0T:i∈Region.ready .any ops listed)
      exact this.2.1 ⟨this.1,hall i this.1⟩
  | succ fuel ihf=>
    intro listed m a w hs hl hI hf
    refine⟨fun hr=>fin listed m a w hs hI (done listed m a w hs hI hr),fun i hi=> ?_⟩
    obtain⟨h1,h2,h3⟩:=(z6P hs).1 hi
    have ho:ops[i]? =some ops[i]:=Y0M h1
    have hb:listed.getD i false=false:=by
      cases hb:listed.getD i false with
      |false=>rfl
      |true=>exact absurd ⟨h1,hb⟩ h2
    refine Inv.step R ho hI h2 (fun o ho' e he hh=>⟨?_,h3 o ho' e he hh⟩) hf fun m' a' w' hle hI'=> ?_
    ·have:=z7o R.hok ho' e he hh;omega
    · refine ihf _ m' a' w' (by simp[hs]) ?_ (hI'.congr fun j=> ?_) (hf.mono hle)
      · have:=x5e (ops:=ops) (listed:=listed) (by omega) hb ops.size
        rw[Y0e h1]at this
        omega
      · unfold Marked
        by_cases he:i=j
        · subst he
          refine⟨fun _=>⟨h1,by simp[Array.getD,hs,h1]⟩,fun _=>.inr rfl⟩
        · have hg:(listed.setIfInBounds i true).getD j false=listed.getD j false:=by simp[Y1M,Y1G he]
          rw[hg]
          exact⟨fun h=>h.elim id fun e=>absurd e.symm he,.inl⟩
theorem x5p(hP:POk P F gl eqT)(ih:Code→St→Res)(hih:Sound P F ih):DrawS P F (Ctx.of P gl eqT) ih:=by
  intro ops s e s' h
  unfold x2O at h
  obtain⟨hok,h⟩:q9c ops.toList ops.toList (masks [] ops.toList) 0 []=true∧q7g P (Ctx.of P gl eqT) ih ops.toList (masks [] ops.toList) ops.toList 0 [] s=some (e,s'):=by
    cases hb:q9c ops.toList ops.toList (masks [] ops.toList) 0 []with
    |false=>rw[hb]at h;cases h
    |true=>rw[hb]at h;exact⟨rfl,h⟩
  obtain⟨S,fp,q1,q2,q3,q4,_,q6⟩:=canon (ops:=ops) (ms:=masks [] ops.toList) ops.toList 0 [] s e s' rfl h
  subst q3
  simp only[Y0L,Y0Q]at q2 q6
  subst q1
  subst q2
  have chain:∀j,j≤ops.size→(S j).n=(S 0).n∧(S j).rd=(S 0).rd∧(S j).ds=(S 0).ds∧HpLe (S 0).h (S j).h:=by
    intro j
    induction j with
    |zero=>intro _;exact⟨rfl,rfl,rfl,.refl _⟩
    | succ j ihj=>
      intro hj
      have ho:ops[j]? =some ops[j]:=Y0M (by omega)
      have l:=(q4 j _ (Y0E _) ho).leaves hP hih
      obtain⟨g1,g2,g3,g4⟩:=ihj (by omega)
      exact⟨l.n.trans g1,l.rd.trans g2,l.ds.trans g3,g4.trans l.le⟩
  obtain⟨c1,c2,c3,c4⟩:=chain ops.size (Y0u _)
  refine⟨c4,c2,c1,fun m a w fe k id hr ha hf hF=>wpIn_region_any hP.mixed ?_⟩
  have hr':HRel P F m (S 0).h {w with drawn:=w.drawn+1}:=(Y0t (w':={w with drawn:=w.drawn+1}) hr rfl ⟨rfl,rfl,rfl⟩).rel
  have R:Reg P F gl eqT ih ops S fp m {w with drawn:=w.drawn+1}:=⟨hP,hih,fun j o ho=>q4 j o (Y0E _) ho,fun j k h1 h2 hc=>q6 j k (Y0E _) h1 h2 hc,hok,hr',hF⟩
  have none0:∀j,¬Marked ops (Array.replicate ops.size false) j:=fun j hj=>by
    have:=hj.2
    simp[Y1M,Array.getElem?_replicate]at this
    split at this<;>simp at this
  have g0:∀r,(HLof S fp ops.size (Marked ops (Array.replicate ops.size false))).get r=(S 0).h.get r:=fun r=>by
    rw[R.get_hl,R.hv_at (i:=0) (Y0E _) (fun j hj=>by omega) (fun j _ _ _=>none0 j)]
  have t0:∀t,TV S ops (Marked ops (Array.replicate ops.size false)) t=tget (S 0).tm t:=fun t=>R.tv_at (i:=0) (Y0E _) (fun j hj=>by omega) (fun j _ _ _=>none0 j)
  have swap:∀{g:Hp} {m':Loc} {w1 w2:World} {h:Hp},(∀r,g.get r=h.get r)→WF h→Core P F m (S 0).h g w1 w2 m'→Core P F m (S 0).h h w1 w2 m':=fun{g m' w1 w2 h} hg hw c=>
    ⟨c.le,⟨fun r o b z h1 h2=>c.rel.obj r o b z (by rw[hg];exact h1) h2,fun r s o q b y z h1 h2 h3 h4=>c.rel.inj r s o q b y z (by rw[hg];exact h1) h2 (by rw[hg];exact h3) h4,fun r o b z h1=>c.rel.out r o b z (by rw[hg];exact h1),c.rel.frz,hw⟩,c.same,c.size,c.old,fun r o' c' h1=>c.keep r o' c' (by rw[hg];exact h1),fun r b z h1 h2 h3=>c.mnew r b z h1 h2 (by rw[hg];exact h3),c.fnew⟩
  have c0:Core P F m (S 0).h (S 0).h {w with drawn:=w.drawn+1} {w with drawn:=w.drawn+1} m:=⟨Y0h m,hr',Y0r _,Y0u _,fun _ _ _=>rfl,fun r o' c h1 h2 _=>⟨o',h1,h2⟩,fun r b z h1 h2=>(by rw[h2]at h1;cases h1),fun _ _ h=>.inl h⟩
  refine Inv.run R (fun m' a' w' _ hI=> ?_) ops.size _ m a _ (by simp) ?_ ⟨fun j h=>h.1,fun j h=>absurd h (none0 j),?_,fun r c h1 h2=>(by rw[h2]at h1;cases h1),⟨(S 0).tm,fun t=>(t0 t).symm,ha.tm⟩,ha.ds⟩ hf
  ·
    have gN:∀r,(HLof S fp ops.size (fun j=>j<ops.size)).get r=(S ops.size).h.get r:=fun r=>by
      rw[R.get_hl,R.hv_at (i:=ops.size) (Y0u _) (fun j hj _=>hj) (fun j h1 h2=>by omega)]
    have cN:=swap gN (R.wf ops.size (Y0u _)) hI.core
    obtain⟨T,hT,hTR⟩:=hI.tm
    have tN:∀t,tget T t=tget (S ops.size).tm t:=fun t=>by
      rw[hT,R.tv_at (i:=ops.size) (Y0u _) (fun j hj _=>hj) (fun j h1 h2=>by omega)]
    have hs:Step P F m (S 0).h (S ops.size).h {w with drawn:=w.drawn+1} w' m':=⟨cN.le,fun r c h1 h2=>by
      obtain⟨k',h3,h4⟩:=hI.names r c h1 h2
      have:=R.made h3 h4
      exact⟨Y0C (R.nx k' (Y0E _) (by omega)) this.1,Y0D this.2 (R.nx ops.size (by omega) (Y0u _))⟩,cN.rel,cN.same,cN.size,cN.old,c4.nx,cN.keep,cN.mnew,cN.fnew⟩
    refine⟨m',.normal,(Y0t (w':={w with drawn:=w.drawn+1}) hr rfl ⟨rfl,rfl,rfl⟩).trans hs,⟨?_,by rw[c3];exact hI.ds⟩⟩
    rw[c1]
    exact⟨hTR.size,fun t ht=>by rw[←tN];exact hTR.at' t ht,fun t ht=>by rw[←tN];exact hTR.out t ht⟩
  ·
    have:∀k,left ops (Array.replicate ops.size false) k≤k:=fun k=>by
      induction k with
      |zero=>exact Y0u _
      | succ k ih=>
        unfold left
        have:(bif (Array.replicate ops.size false).getD k false then 0 else 1)≤1:=by cases (Array.replicate ops.size false).getD k false<;>simp
        omega
    exact this _
  · refine swap (fun r=>(g0 r).symm) (fun r hr=> ?_) c0
    rw[R.get_hl];exact R.hv_high hr
end
end Go.Ax
noncomputable section
namespace Go.Ax
mutual
def q3Z:AV→Bool
 | .ptr _ _=>false
 | .sl _ _ _ _ _ _=>false
 | .map _=>false
 | .isl xs=>q6y xs
 | .iptr xs _ _=>q6y xs
 | .fn (.func _) a c=>q2g a&&q2g c
 | .fn _ _ _=>false
 | .iface _ v=>q3Z v
 | .agg l=>q2g l
 | .tup l=>q2g l
 |_=>true
def q2g:List AV→Bool
 |[]=>true
 |v::l=>q3Z v&&q2g l
def q6y:List (List AV)→Bool
 |[]=>true
 |v::l=>q2g v&&q6y l
end
theorem q5M:∀{l:List AV} {i:Nat} {x:AV},q2g l=true→l[i]? =some x→q3Z x=true
  |[],i,x,_,h=>by simp at h
  | v::l,0,x,h,hx=>by
    simp at hx;subst hx
    unfold q2g at h
    exact(q0p h).1
  | v::l,i+1,x,h,hx=>by
    unfold q2g at h
    exact q5M (q0p h).2 (by simpa using hx)
theorem z4N:∀{l:List (List AV)} {i:Nat} {x:List AV},q6y l=true→l[i]? =some x→q2g x=true
  |[],i,x,_,h=>by simp at h
  | v::l,0,x,h,hx=>by
    simp at hx;subst hx
    unfold q6y at h
    exact(q0p h).1
  | v::l,i+1,x,h,hx=>by
    unfold q6y at h
    exact z4N (q0p h).2 (by simpa using hx)
section
variable{P:Program}{F:Nat→Option Obj}{m:Loc}
theorem VRel.unref{fz:Nat→Option Obj}(hle:∀b o,m.fz b=some o→fz b=some o){x:AV}{v:Value}(h:VRel P F m x v):q3Z x=true→VRel P F ⟨fun _=>none,fz⟩ x v:=by
  have fzm:∀{b o},Fz F m b o→Fz F ⟨fun _=>none,fz⟩ b o:=fun h=>h.elim .inl fun h=>.inr (hle _ _ h)
  induction h with
  |undef v=>intro _;exact .undef v
  |bool b=>intro _;exact .bool b
  |int k n=>intro _;exact .int k n
  |str s=>intro _;exact .str s
  |nilptr=>intro _;exact .nilptr
  |ptr h=>intro hn;simp[q3Z]at hn
  |nilsl=>intro _;exact .nilsl
  |sl h hl hc hx hz=>intro hn;simp[q3Z]at hn
  |isl0 a cap=>intro _;exact .isl0 a cap
  |isl es f hF hl hes hf _ ih=>intro hn;simp only[q3Z]at hn;exact .isl es f (fzm hF) hl hes hf fun i j c x h1 h2=>ih i j c x h1 h2 (q5M (z4N hn h1) h2)
  |iptr es f hF hi hes hf _ ih=>intro hn;simp only[q3Z]at hn;exact .iptr es f (fzm hF) hi hes hf fun i j c x h1 h2=>ih i j c x h1 h2 (q5M (z4N hn h1) h2)
  |nilmap=>intro _;exact .nilmap
  |map h=>intro hn;simp[q3Z]at hn
  | fn hf hl _ hk _ ih1 ih2=>
    intro hn
    cases hf with
    | func f=>
      simp only[q3Z]at hn
      obtain⟨h1,h2⟩:=q0p hn
      exact .fn (.func f) hl (fun i x y hx hy=>ih1 i x y hx hy (q5M h1 hx)) hk (fun i x y hx hy=>ih2 i x y hx hy (q5M h2 hx))
    |yield h=>simp[q3Z]at hn
  |nilfn=>intro _;exact .nilfn
  |iface t _ ih=>intro hn;simp only[q3Z]at hn;exact .iface t (ih hn)
  |nilif=>intro _;exact .nilif
  |agg hl _ ih=>intro hn;simp only[q3Z]at hn;exact .agg hl fun i x y hx hy=>ih i x y hx hy (q5M hn hx)
  |tup hl _ ih=>intro hn;simp only[q3Z]at hn;exact .tup hl fun i x y hx hy=>ih i x y hx hy (q5M hn hx)
  |typ t=>intro _;exact .typ t
  |raw h=>intro _;exact .raw h
theorem LRel.unref{fz:Nat→Option Obj}(hle:∀b o,m.fz b=some o→fz b=some o){l:List AV}{a:List Value}(h:LRel P F m l a)(hn:q2g l=true):LRel P F ⟨fun _=>none,fz⟩ l a:=
 ⟨h.len,fun i x y hx hy=>(h.at' i x y hx hy).unref hle (q5M hn hx)⟩
end
def mapO{α β:Type}(f:α→Option β):List α→Option (List β)
  |[]=>some []
  | x::l=>match f x with
    |some y=>(match mapO f l with|some k=>some (y::k)|none=>none)
    |none=>none
theorem z0I{α β:Type}{f:α→Option β}:∀{l:List α} {k:List β},mapO f l=some k→k.length=l.length∧∀(i:Nat) (y:β),k[i]? =some y→∃x,l[i]? =some x∧f x=some y
  |[],k,h=>by cases h;exact⟨rfl,fun i y h=>by simp at h⟩
  | x::l,k,h=>by
    unfold mapO at h
    split at h
    case h_2=>cases h
    rename_i y hy
    split at h
    case h_2=>cases h
    rename_i k' hk
    cases h
    obtain⟨h1,h2⟩:=z0I hk
    refine⟨by simp[h1],fun i z hz=> ?_⟩
    cases i with
    |zero=>simp at hz;subst hz;exact⟨x,rfl,hy⟩
    |succ i=>exact h2 i z (by simpa using hz)
def chunks(es:Nat):Nat→List AV→List (List AV)
 |0,_=>[]
 |k+1,l=>l.take es::chunks es k (l.drop es)
theorem z8M(es:Nat):∀(k:Nat) (l:List AV),(chunks es k l).length=k
 |0,_=>rfl
 |k+1,l=>by simp[chunks,z8M es k]
theorem x1x(es:Nat):∀(k:Nat) (l:List AV) (i:Nat) (c:List AV),(chunks es k l)[i]? =some c→c=(l.drop (i*es)).take es
  |0,_,i,c,h=>by simp[chunks]at h
  |k+1,l,0,c,h=>by simp[chunks]at h;subst h;simp
  | k+1,l,i+1,c,h=>by
    have:=x1x es k (l.drop es) i c (by simpa [chunks]using h)
    rw[this,List.drop_drop]
    congr 2
    rw[Y0Y,Nat.add_comm]
def frzV :Nat→Hp→AV→Option AV
  |0,_,_=>none
  | k + 1,h,v=>match v with
    | .ptr r o=>(match h.get r with
      |some (.cells _ cs)=>(match mapO (frzV k h) cs with|some l=>some (.iptr [l] 0 o)|none=>none)
      |_=>none)
    | .sl r o len _ es _=>(match h.get r with
      | some (.cells _ cs)=>bif Nat.ble (Nat.add o (Nat.mul len es)) cs.length then
          (match mapO (mapO (frzV k h)) (chunks es len (cs.drop o))with|some l=>some (.isl l)|none=>none)else none
      |_=>none)
    | .map _=>none
    | .isl xs=>bif q6y xs then some (.isl xs)else none
    | .iptr xs i o=>bif q6y xs then some (.iptr xs i o)else none
    | .fn (.func f) a c=>(match mapO (frzV k h) a,mapO (frzV k h) c with|some a,some c=>some (.fn (.func f) a c)|_,_=>none)
    | .fn _ _ _=>none
    | .iface t x=>(match frzV k h x with|some y=>some (.iface t y)|none=>none)
    | .agg l=>(match mapO (frzV k h) l with|some l=>some (.agg l)|none=>none)
    | .tup l=>(match mapO (frzV k h) l with|some l=>some (.tup l)|none=>none)
    |x=>some x
section
variable{P:Program}{F:Nat→Option Obj}{m:Loc}
theorem z1u{fz:Nat→Option Obj}{f:AV→Option AV}(ih:∀x v y,VRel P F m x v→f x=some y→VRel P F ⟨fun _=>none,fz⟩ y v){l k:List AV}{a:List Value}(h:LRel P F m l a)(hk:mapO f l=some k):LRel P F ⟨fun _=>none,fz⟩ k a:=by
 obtain⟨h1,h2⟩:=z0I hk
 refine⟨h1.trans h.len,fun i x y hx hy=> ?_⟩
 obtain⟨z,hz,hf⟩:=h2 i x hx
 exact ih _ _ _ (h.at' i z y hz hy) hf
theorem z3z {h:Hp}{w:World}{fz:Nat→Option Obj}(hr:HRel P F m h w)(hle:∀b o,m.fz b=some o→fz b=some o)
    (hnew:∀r o b z ob,h.get r=some o→o.live=true→m r=some (b,z)→w.heap[b]? =some ob→fz b=some ob):
    ∀(k:Nat) (x:AV) (v:Value) (y:AV),VRel P F m x v→frzV k h x=some y→VRel P F ⟨fun _=>none,fz⟩ y v
  |0,_,_,_,_,e=>by cases e
  | k + 1, x,v,y,hv,e=>by
    have ih:∀x v y,VRel P F m x v→frzV k h x=some y→VRel P F ⟨fun _=>none,fz⟩ y v:=z3z hr hle hnew k
    unfold frzV at e
    split at e
    · rename_i r o
      split at e
      case h_2=>cases e
      rename_i e0 cs hg
      split at e
      case h_2=>cases e
      rename_i l hl
      cases e
      obtain⟨b,z,hm,rfl⟩:=hv.ptr_inv
      obtain⟨arr,h1,h2,h3,h4⟩:=hr.obj r _ b z hg hm
      obtain⟨l1,l2⟩:=z0I hl
      have hF:Fz F ⟨fun _=>none,fz⟩ b (.cells arr e0 (0,0)):=.inr (hnew r _ b z _ hg rfl hm h1)
      have hp:=VRel.iptr (P:=P) (F:=F) (m:=⟨fun _=>none,fz⟩) (xs:=[l]) (i:=0) (o:=o) (b:=b) (off:=0) l.length (fun _ j=>arr.getD j Go.undef) hF (by simp) (fun c hc=>by rw[Y2d.1 hc])
        (fun p j hp hj=>by
          have hp0:p=0:=by simpa using hp
          subst hp0
          rw[Y1t,Nat.add_zero,Y0L,Y1M]
          have hlt:j<arr.size:=by omega
          rw[Y0M hlt];rfl)
        (fun p j c x hc hx=>by
          have hp0:p=0:=by
            have:=(Y0m.1 hc).1
            simpa using this
          subst hp0
          cases hc
          have hlt:j<arr.size:=by have:=(Y0m.1 hx).1;omega
          obtain⟨q,hq,hf⟩:=l2 j x hx
          rw[Y1M,Y0M hlt]
          exact ih _ _ _ (h4 j q _ hq (Y0M hlt)) hf)
      simpa using hp
    · rename_i r o len cap es xx
      split at e
      case h_2=>cases e
      rename_i e0 cs hg
      cases hb:Nat.ble (Nat.add o (Nat.mul len es)) cs.length with
      |false=>rw[hb]at e;cases e
      |true=>
      rw[hb]at e
      simp only[Y0V]at e
      have hb:o+len*es≤cs.length:=Y0J hb
      split at e
      case h_2=>cases e
      rename_i l hl
      cases e
      obtain⟨b,z,ccap,hm,rfl,c1,c2,c3,c4⟩:=hv.sl_inv
      obtain⟨arr,h1,h2,h3,h4⟩:=hr.obj r _ b z hg hm
      obtain⟨l1,l2⟩:=z0I hl
      rw[z8M]at l1
      have hF:Fz F ⟨fun _=>none,fz⟩ b (.cells arr e0 (0,0)):=.inr (hnew r _ b z _ hg rfl hm h1)
      have at':∀i j,i<len→j<es→o+i*es+j<cs.length:=fun i j hi hj=>by
        have:i*es+es≤len*es:=by rw[←Y0Y];exact Y1v _ hi
        omega
      have inl:∀i c,l[i]? =some c→c.length=es∧∀j x,c[j]? =some x→∃q,cs[o+i*es+j]? =some q∧frzV k h q=some x:=fun i c hc=>by
        obtain⟨d,hd,hf⟩:=l2 i c hc
        have hi:i<len:=by have:=(Y0m.1 hc).1;omega
        have hd':=x1x es len _ i d hd
        obtain⟨f1,f2⟩:=z0I hf
        have hlen:d.length=es:=by
          rw[hd',Y1R,List.length_drop,List.length_drop]
          have:i*es+es≤len*es:=by rw[←Y0Y];exact Y1v _ hi
          omega
        refine⟨f1.trans hlen,fun j x hx=> ?_⟩
        obtain⟨q,hq,hfq⟩:=f2 j x hx
        refine⟨q,?_,hfq⟩
        rw[hd',Y0k]at hq
        split at hq
        · rw[Y0l,Y0l]at hq
          rw[←hq];congr 1;omega
        ·cases hq
      rw[←l1]
      refine .isl es (fun i j=>arr.getD (o+i*es+j) Go.undef) hF (by omega) (fun c hc=> ?_) (fun i j hi hj=> ?_) (fun i j c x hc hx=> ?_)
      · obtain⟨i,hi,rfl⟩:=Y0F hc
        exact(inl i _ (Y0n hi)).1
      · have:=at' i j (by omega) hj
        rw[Y1M,Y0M (show o+i*es+j<arr.size by omega)];rfl
      · obtain⟨q,hq,hf⟩:=(inl i c hc).2 j x hx
        have hlt:=(Y0m.1 hq).1
        rw[Y1M,Y0M (show o+i*es+j<arr.size by omega)]
        exact ih _ _ _ (h4 _ q _ hq (Y0M (show o+i*es+j<arr.size by omega))) hf
    ·cases e
    · obtain⟨hb,e⟩:=q0i e
      cases e
      exact hv.unref hle (by simp only[q3Z];exact hb)
    · obtain⟨hb,e⟩:=q0i e
      cases e
      exact hv.unref hle (by simp only[q3Z];exact hb)
    · rename_i f a c
      split at e
      case h_2=>cases e
      rename_i a' c' ha hc
      cases e
      obtain⟨f',p,q,rfl,hf,hp,hq⟩:=hv.fn_inv
      cases hf
      have g1:=z1u ih hp ha
      have g2:=z1u ih hq hc
      exact .fn (.func _) (by simpa using g1.len) (fun i x y hx hy=>g1.at' i x y hx (by simpa using hy)) (by simpa using g2.len) (fun i x y hx hy=>g2.at' i x y hx (by simpa using hy))
    ·cases e
    · split at e
      case h_2=>cases e
      rename_i u hu
      cases e
      obtain⟨z,rfl,hz⟩:=hv.iface_inv
      exact .iface _ (ih _ _ _ hz hu)
    · split at e
      case h_2=>cases e
      rename_i l hl
      cases e
      obtain⟨a,rfl,ha⟩:=Y0q hv
      exact Y0o (z1u ih ha hl)
    · split at e
      case h_2=>cases e
      rename_i l hl
      cases e
      obtain⟨a,rfl,ha⟩:=LRel.of_tup hv
      exact Y0p (z1u ih ha hl)
    · rename_i n1 n2 n3 n4 n5 n6 n7 n8 n9 n10
      cases e
      refine hv.unref hle ?_
      cases x<;>first
        |rfl
        |exact absurd rfl (n1 _ _)
        |exact absurd rfl (n2 _ _ _ _ _ _)
        |exact absurd rfl (n3 _)
        |exact absurd rfl (n4 _)
        |exact absurd rfl (n5 _ _ _)
        |exact absurd rfl (n7 _ _ _)
        |exact absurd rfl (n8 _ _)
        |exact absurd rfl (n9 _)
        |exact absurd rfl (n10 _)
end
def h0:Hp:={nx:=0,m:=.e,lo:=0}
section
variable{P:Program}{F:Nat→Option Obj}{gl:Nat→AV}{eqT:Knob}
theorem hrel0{m:Loc}{w:World}(hf:∀b o,Fz F m b o→w.heap[b]? =some o):HRel P F ⟨fun _=>none,m.fz⟩ h0 w:=by
 have no:∀r o,¬h0.get r=some o:=fun r o hg=>by
  have:h0.get r=none:=Y0a r
  rw[this]at hg;cases hg
 exact⟨fun r o b z hg=>absurd hg (no r o),fun r s o q b y z hg=>absurd hg (no r o),fun r o b z hg=>absurd hg (no r o),fun b o hb=>hf b o hb,fun r _=>Y0a r⟩
end
abbrev Tab:=List (Nat×List AV×AV)
def orcOf:Tab→FuncId→List AV→Option AV
 |[],_,_=>none
 |(g,a,v)::l,f,args=>bif Nat.beq g f&&eqVs a args then some v else orcOf l f args
theorem x0X:∀{t:Tab} {f:FuncId} {args:List AV} {v:AV},orcOf t f args=some v→(f,args,v)∈t
  |[],_,_,_,h=>by cases h
  | (g,a,v)::l,f,args,u,h=>by
    unfold orcOf at h
    cases hb:(Nat.beq g f&&eqVs a args)with
    | true=>
      rw[hb]at h
      cases h
      obtain⟨h1,h2⟩:=q0p hb
      rw[Y0P h1,z2u _ _ h2];exact Y0T
    |false=>rw[hb]at h;exact Y0U _ (x0X h)
def AllPure(P:Program)(F:Nat→Option Obj)(t:Tab):Prop:=∀f args v,(f,args,v)∈t→PureC P F f args v
theorem AllPure.nil{P:Program}{F:Nat→Option Obj}:AllPure P F []:=fun _ _ _ h=>by cases h
end Go.Ax
noncomputable section
namespace Go.Ax
def x5C{α:Type}:List α→Nat→Bool
 |[],0=>true
 |_::l,k+1=>x5C l k
 |_,_=>false
theorem z0K{α:Type}:∀(l:List α) (k:Nat),x5C l k=true→l.length=k
 |[],0,_=>rfl
 |x::l,k+1,h=>by simp[z0K l k h]
 |[],k+1,h=>by cases h
 |x::l,0,h=>by cases h
def flatA(f:DataW Unit→Option (List AV))(sz:Nat):List (DataW Unit)→Option (List AV)
  |[]=>some []
  | d::ds=>match f d,flatA f sz ds with
    |some l,some r=>bif x5C l sz then some (l++r)else none
    |_,_=>none
def flatF(C:Ctx)(f:TypeId→DataW Unit→Option (List AV)):Nat→List Field→List (DataW Unit)→Option (List AV)
  |_,[],[]=>some []
  | o,x::xs,d::ds=>match C.ti x.type,f x.type d,flatF C f (Nat.add o (match C.ti x.type with|some y=>y.size|none=>0)) xs ds with
    |some y,some l,some r=>bif Nat.beq x.offset o&&x5C l y.size then some (l++r)else none
    |_,_,_=>none
  |_,_,_=>none
def x7E(C:Ctx):Nat→TypeId→DataW Unit→Option (List AV)
  |0,_,_=>none
  | k +1,t,d=>match C.ti t with
    |none=>none
    | some ti=>match ti.desc,d with
      | .bool,.lit (.bool b)=>some [.bool b]
      | .int _,.lit (.int j n)=>some [.int j n]
      | .string,.lit (.string s)=>some [.str (s.map UInt8.toNat)]
      | .array _ e,.agg ds=>(match C.ti e with|some y=>(match flatA (x7E C k e) y.size ds with|some l=>bif x5C l ti.size then some l else none|none=>none)|none=>none)
      | .struct fs,.agg ds=>(match flatF C (x7E C k) 0 fs.toList ds with|some l=>bif x5C l ti.size then some l else none|none=>none)
      |_,_=>none
section
variable{P:Program}{F:Nat→Option Obj}{m:Loc}{gl:Nat→AV}{eqT:Knob}{w:World}
theorem z1J{t:TypeId}{x:TI}(h:(Ctx.of P gl eqT).ti t=some x):P.cellsOf t=x.size:=by
 obtain⟨i,hi,e,_⟩:=q6v h
 rw[e]
 simp[Program.cellsOf,hi]
theorem x1r{f:DataW Unit→Option (List AV)}{sz:Nat}{cs:List Value}{g:Nat→List Value→Prop}:
    ∀(ds:List (DataW Unit)) (l:List AV) (j:Nat),flatA f sz ds=some l→(∀i d,ds[i]? =some d→∀r,f d=some r→LRel P F m r ((cs.drop ((j+i)*sz)).take sz))→LRel P F m l ((cs.drop (j*sz)).take l.length)
  |[],l,j,h,_=>by cases h;simpa using LRel.nil
  | d ::ds,l,j,h,hd=>by
    unfold flatA at h
    split at h
    case h_2=>cases h
    rename_i p r hp hr
    obtain⟨hl,he⟩:=q0i h
    subst he
    have hl:=z0K _ _ hl
    have h1:=hd 0 d rfl p hp
    have h2:=x1r (g:=g) ds r (j+1) hr fun i d' hi r' hr'=>by
      have:=hd (i+1) d' (by simpa using hi) r' hr'
      rw[show j+(i+1)=j+1+i by omega]at this
      exact this
    have e:(cs.drop (j*sz)).take (p++r).length=(cs.drop (j*sz)).take sz++(cs.drop ((j+1)*sz)).take r.length:=by
      rw[Y0X,hl,List.take_add,List.drop_drop,Y1u,Nat.one_mul]
    rw[e]
    exact(by simpa using h1:LRel P F m p ((cs.drop (j*sz)).take sz)).append h2
theorem x1q{f:TypeId→DataW Unit→Option (List AV)}{cs:List Value}:
    ∀(fs:List Field) (ds:List (DataW Unit)) (l:List AV) (o:Nat),flatF (Ctx.of P gl eqT) f o fs ds=some l→(∀(i:Nat) x d,fs[i]? =some x→ds[i]? =some d→∀r,f x.type d=some r→LRel P F m r ((cs.drop x.offset).take (P.cellsOf x.type)))→LRel P F m l ((cs.drop o).take l.length)
  |[],[],l,o,h,_=>by cases h;simpa using LRel.nil
  | x ::fs,d::ds,l,o,h,hd=>by
    unfold flatF at h
    split at h
    case h_2=>cases h
    rename_i y p r hy hp hr
    obtain⟨hb,he⟩:=q0i h
    subst he
    obtain⟨h1,h2⟩:=q0p hb
    have h1:=Y0P h1
    have h2:=z0K _ _ h2
    rw[hy]at hr
    have g1:=hd 0 x d rfl rfl p hp
    have g2:=x1q fs ds r _ hr fun i x' d' hx' hd' r' hr'=>hd (i+1) x' d' (by simpa using hx') (by simpa using hd') r' hr'
    rw[h1,z1J hy]at g1
    have e:(cs.drop o).take (p++r).length=(cs.drop o).take y.size++(cs.drop (o+y.size)).take r.length:=by
      rw[Y0X,h2,List.take_add,List.drop_drop]
    rw[e]
    exact g1.append g2
  |[],_::_,_,_,h,_=>by cases h
  |_::_,[],_,_,h,_=>by cases h
theorem z6S:∀(k:Nat) (t:TypeId) (d:DataW Unit) (l:List AV) (fuel:Nat) (cs:List Value) (p:List MemPlace),x7E (Ctx.of P gl eqT) k t d=some l→
    DataW.trod (fun _=>()) P w 0 (fun _=>true) false fuel t cs=some (d,p)→LRel P F m l cs
  |0,_,_,_,_,_,_,h,_=>by cases h
  |k+1,t,d,l,0,cs,p,h,ht=>by simp[DataW.trod]at ht
  | k + 1, t,d,l,fuel+1,cs,p,h,ht=>by
    unfold x7E at h
    split at h
    ·cases h
    rename_i ti hti
    have hu:=q0A hti
    split at h
    · rename_i b hd
      cases h
      rw[hd]at hu
      unfold DataW.trod at ht
      rw[hu]at ht
      split at ht<;>simp_all
      exact .cons (.bool _) .nil
    · rename_i j n hd
      cases h
      rw[hd]at hu
      unfold DataW.trod at ht
      rw[hu]at ht
      split at ht<;>simp_all
      exact .cons (.int _ _) .nil
    · rename_i s hd
      cases h
      rw[hd]at hu
      unfold DataW.trod at ht
      rw[hu]at ht
      split at ht<;>first|(cases ht;done)|skip
      all_goals first
        | (rename_i b he
           split at ht
           ·cases ht;exact .cons (.str b) .nil
           ·cases ht)
        |(simp_all;done)
    · rename_i n e ds hd
      rw[hd]at hu
      obtain⟨xs,q,hq,hx,hlen,hn,hel⟩:=DataW.trod_array hu ht
      split at h
      case h_2=>cases h
      rename_i y hy
      split at h
      case h_2=>cases h
      rename_i l' hl'
      obtain⟨hb,he⟩:=q0i h
      subst he
      have hb:=z0K _ _ hb
      cases hq
      cases hx
      have:=x1r (P:=P) (F:=F) (m:=m) (cs:=cs) (g:=fun _ _=>True) _ _ 0 hl' fun i d' hi r hr=>by
        rw[Y0R]at hi
        obtain⟨x,hx,rfl⟩:=Y0S.1 hi
        have hi':i<n:=by rw[←hn];exact(Y0m.1 hx).1
        have h2:=hel i hi'
        rw[hx,z1J hy]at h2
        rw[Y0L]
        exact z6S k e x.1 r fuel _ x.2 hr h2
      rw[z1J hti]at hlen
      simpa [hb,←hlen]using this
    · rename_i fs ds hd
      rw[hd]at hu
      obtain⟨xs,q,hq,hx,hlen,hn,hel⟩:=DataW.trod_struct hu ht
      split at h
      case h_2=>cases h
      rename_i l' hl'
      obtain⟨hb,he⟩:=q0i h
      subst he
      have hb:=z0K _ _ hb
      cases hq
      cases hx
      have:=x1q (P:=P) (F:=F) (m:=m) (cs:=cs) _ _ _ 0 hl' fun i x d' hx hi r hr=>by
        rw[Y0R]at hi
        obtain⟨y,hy,rfl⟩:=Y0S.1 hi
        have h2:=hel i x (by simpa using hx)
        rw[hy]at h2
        exact z6S k x.type y.1 r fuel _ y.2 hr h2
      rw[z1J hti]at hlen
      simpa [hb,←hlen]using this
    ·cases h
end
end Go.Ax
noncomputable section
namespace Go.Ax
open Go.RowKit (Below)
def glOf:List (Nat×List AV)→Nat→AV
 |[],_=>.undef
 |(g,l)::r,i=>bif Nat.beq g i then .iptr [l] 0 0 else glOf r i
def eqOf:List Nat→Nat→Bool
 |[],_=>false
 |t::r,i=>bif Nat.beq t i then true else eqOf r i
theorem x5n:∀(l:List Nat) (t:Nat),eqOf l t=true→t∈l
  |[],_,h=>by cases h
  | x::l,t,h=>by
    unfold eqOf at h
    cases hb:Nat.beq x t with
    |true=>rw[Y0P hb];exact Y0T
    |false=>rw[hb]at h;exact Y0U _ (x5n l t h)
def z4I(P:Program)(t:Nat):Bool:=
 !P.stoodInHeld t&&(!P.eqGuardType P.depth t&&(match P.underlying t with|some (.struct fs)=>fs.toList.all fun f=>f.name != "_" |_=>true))
theorem eqOk_of{P:Program}{l:List Nat}{orc:FuncId→List AV→Option AV}{ext:FuncId→List AV→Option AV}{prim:FuncId→List AV→Hp→Option (AV×Hp)}(h:(l.all (z4I P))=true):EqOk P ⟨eqOf l,orc,ext,prim⟩:=by
 have key:∀t,eqOf l t=true→z4I P t=true:=fun t ht=>Y0G.1 h t (x5n l t ht)
 refine⟨fun t ht=> ?_,fun t ht=> ?_,fun t fs ht hu f hf=> ?_⟩<;>have hk:=key t ht<;>unfold z4I at hk<;>obtain⟨a,b⟩:=q0p hk<;>obtain⟨b,c⟩:=q0p b
 ·simpa using a
 ·simpa using b
 ·rw[hu]at c
  have:=Y0G.1 c f hf
  simpa using this
section
variable{P:Program}{W:World}
def frozen(W:World)(b:Nat):Option Obj:=W.heap[b]?
def Known(P:Program)(W:World)(tab:List (Nat×List AV)):Prop:=
 ∀g l,(g,l)∈tab→∃arr e fz,W.heap[g]? =some (.cells arr e fz)∧∀m,LRel P (frozen W) m l arr.toList
theorem glob_of{tab:List (Nat×List AV)}(h:Known P W tab)(m:Loc)(g:Nat):VRel P (frozen W) m (glOf tab g) (.pointer (some ⟨g,0,none⟩)):=by
  induction tab with
  |nil=>exact .undef _
  | cons x r ih=>
    obtain⟨i,l⟩:=x
    unfold glOf
    cases hb:Nat.beq i g with
    |false=>exact ih fun g' l' hm=>h g' l' (Y0U _ hm)
    | true =>
      have:=Y0P hb
      subst this
      obtain⟨arr,e,fz,h1,h2⟩:=h i l Y0T
      have hl:=(h2 m).len
      have hp:=VRel.iptr (P:=P) (F:=frozen W) (m:=m) (xs:=[l]) (i:=0) (o:=0) (b:=i) (off:=0) (arr:=arr) (e:=e) (fz:=fz) l.length (fun _ j=>arr.getD j Go.undef) (.inl h1) (by simp) (fun c hc=>by rw[Y2d.1 hc])
        (fun p j hp hj=>by
          have hp0:p=0:=by simpa using hp
          subst hp0
          rw[Y1t,Nat.add_zero,Y0L,Y1M]
          have hlt:j<arr.size:=by simp at hl;omega
          rw[Y0M hlt];rfl)
        (fun p j c x hc hx=>by
          have hp0:p=0:=by
            have:=(Y0m.1 hc).1
            simpa using this
          subst hp0
          cases hc
          obtain⟨y,hy,hr⟩:=(h2 m).get hx
          rw[Y1U]at hy
          rw[Y1M,hy];exact hr)
      simpa using hp
abbrev knobX(ts:List Nat)(T:Tab)(ext:FuncId→List AV→Option AV)(prim:FuncId→List AV→Hp→Option (AV×Hp)):Knob:=⟨eqOf ts,orcOf T,ext,prim⟩
abbrev knob(ts:List Nat)(T:Tab):Knob:=knobX ts T (fun _ _=>none) (fun _ _ _=>none)
def ExtOk(P:Program)(F:Nat→Option Obj)(ext:FuncId→List AV→Option AV):Prop:=
 ∀f args v,ext f args=some v→∀(m:Loc) (w:World) (cargs:Array Value),LRel P F m args cargs.toList→∃cv w',(callFunc f cargs).run P w= .ok (.value cv) w'∧w'.heap=w.heap∧SameOut w w'∧VRel P F m v cv
def PrimOk(P:Program)(F:Nat→Option Obj)(prim:FuncId→List AV→Hp→Option (AV×Hp)):Prop:=
 ∀f args h v h',prim f args h=some (v,h')→HpLe h h'∧Calling P F h h' v f args
theorem pok_ofX{tab:List (Nat×List AV)}{ts:List Nat}{T:Tab}{ext:FuncId→List AV→Option AV}{prim:FuncId→List AV→Hp→Option (AV×Hp)}(hK:Known P W tab)(hE:(ts.all (z4I P))=true)(hN:(P.funcs.all fun fn=> !(fn.body.isSome&&fn.name== "runtime.NumGoroutine"))=true)(hM:P.follows .mixedOrders=true)(hT:AllPure P (frozen W) T)(hX:ExtOk P (frozen W) ext)(hR:PrimOk P (frozen W) prim):
  POk P (frozen W) (glOf tab) (knobX ts T ext prim):=by
 refine⟨eqOk_of hE,glob_of hK,fun f fn hf hb=> ?_,hM,fun f args v h=>hT f args v (x0X h),hX,hR⟩
 have:=(Y2r.1 hN) fn (Array.mem_of_getElem? hf)
 rw[hb]at this
 simpa using this
theorem pok_of{tab:List (Nat×List AV)}{ts:List Nat}{T:Tab}(hK:Known P W tab)(hE:(ts.all (z4I P))=true)(hN:(P.funcs.all fun fn=> !(fn.body.isSome&&fn.name== "runtime.NumGoroutine"))=true)(hM:P.follows .mixedOrders=true)(hT:AllPure P (frozen W) T):
  POk P (frozen W) (glOf tab) (knob ts T):=pok_ofX hK hE hN hM hT (fun _ _ _ h=>by cases h) (fun _ _ _ _ _ h=>by cases h)
end
end Go.Ax
noncomputable section
namespace Go.Ax
section
variable{P:Program}{F:Nat→Option Obj}{m:Loc}
theorem Step.grow{h:Hp}{w w':World}(hr:HRel P F m h w)(hsz:w.heap.size≤w'.heap.size)(hold:∀b,b<w.heap.size→w'.heap[b]? =w.heap[b]?)(hs:SameOut w w'):Step P F m h h w w' m where
 le:=Y0h m
 new r c hc hn:=by rw[hn]at hc;cases hc
 rel:=⟨fun r o b z hg hm=>by
  by_cases hl:o.live=true
  ·rw[hold b (hr.lt hg hl hm)];exact hr.obj r o b z hg hm
  ·cases o<;>first|trivial|exact absurd rfl hl,hr.inj,hr.out,fun b o hb=>by rw[hold b (hr.flt hb)];exact hr.frz b o hb,hr.wf⟩
 same:=hs
 size:=hsz
 old b hb _:=hold b hb
 nx:=Y0u _
 keep r o' c hg hl _:=⟨o',hg,hl⟩
 mnew r b z h1 h2 _:=by rw[h2]at h1;cases h1
 fnew b o hb:=.inl hb
end
end Go.Ax
noncomputable section
namespace Go.Ax
structure NK where
 nd:FuncId→Bool
 an:FuncId→Bool
 kl:FuncId→Bool
 pr:FuncId→List AV→Hp→Option (List (AV×Hp))
section
variable{P:Program}{F:Nat→Option Obj}{gl:Nat→AV}{eqT:Knob}{m:Loc}{N:NK}
def Fre(m:Loc)(h:Hp):Prop:=∀r,h.nx≤r→m r=none
theorem Fre.to{h h':Hp}(hf:Fre m h):Free m h h':=fun r h1 _=>hf r h1
theorem Fre.after{h h1:Hp}{w w1:World}{m1:Loc}(hf:Fre m h)(hs:Step P F m h h1 w w1 m1):Fre m1 h1:=fun r hr=>by
  cases hm:m1 r with
  |none=>rfl
  | some c=>
    have:=(hs.new r c hm (hf r (Y0C hs.nx hr))).2
    omega
end
end Go.Ax
noncomputable section
namespace Go.Ax
section
variable{P:Program}{F:Nat→Option Obj}{gl:Nat→AV}{eqT:Knob}{m:Loc}{N:NK}
theorem ret_relR(hN:∀(f:FuncId) (fn:Func),P.funcs[f]? =some fn→fn.body.isSome=true→(fn.name== "runtime.NumGoroutine")=false){ih:Code→St→Res}(hih:Sound P F ih){s:St}{h':Hp}{fn:Func}{vs:List AV}{m1:Loc}{h:Hp}{w w1:World}{a:Act}{n:Nat}{R:Ending→World→Prop}(ha:ARel P F m1 s a)(hs:Step P F m h s.h w w1 m1)(hF:Free m1 s.h h')(hd:q2k (Ctx.of P gl eqT) ih s.ds s.h=some h')(hres:q3n (Ctx.of P gl eqT) {s with h:=h'} fn.results.toList=some vs)
  (hR:∀cv m' w',Step P F m h h' w w' m'→VRel P F m' (q0q vs) cv→R (.returned cv) w'):q4I Fence.wide n P fn a.tmps R a.defers .returning w1:=by
 refine q7V hN hih s.ds _ s.h h' w1 m1 ha.ds hd hs.rel hF fun w' m' hw'=> ?_
 have ht:∀t,VRel P F m' (tget s.tm t) (a.tmps.getD t Go.undef):=fun t=>by
  by_cases hlt:t<s.n
  ·exact(ha.tm.at' t hlt).mono hw'.le
  ·rw[ha.tm.out t (by omega),Y1M,Y1N (by rw[ha.tm.size];omega)]
   exact Y0p .nil
 obtain⟨cv,h1,h2⟩:=z7d (s:={s with h:=h'}) ht hw'.rel hres
 exact⟨cv,h1,hR cv m' w' (hs.trans hw') h2⟩
end
end Go.Ax
