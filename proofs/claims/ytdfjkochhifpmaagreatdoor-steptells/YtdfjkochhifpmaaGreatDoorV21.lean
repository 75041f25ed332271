import Derived.Test.YtdfjkochhifpmaaGreatDoorV20
set_option linter.unusedSimpArgs false
set_option linter.unusedVariables false
set_option maxRecDepth 20000
noncomputable section
namespace Go.Ax
open Go.Proofs
attribute [local irreducible] TW TO CallsT PureC
variable{F:Nat→Option Obj}{gl:Nat→AV}{K:Knob}{S S':Nat→Prop}
theorem a_copy{P:Program}{C:Ctx}{ih:Code→St→Res}{st:St}{dd:Option Nat}{t u:TypeId}{ts:List TypeId}{x y:Operand}{ty:TypeId}{pos:String}{aft:Array Edge}{gd:Option (Nat×Bool)}:
  opA P C ih st ⟨dd,.call {callee:=.builtin .copy,args:= #[x,y],argTypes:=⟨t::u::ts⟩},ty,pos,aft,gd⟩=(q7E C t (st.ev C x) (st.ev C y) st.h).map fun r=>.val r.1 r.2:=by
 show(match q7E C t (st.ev C x) (st.ev C y) st.h with|some (v,h')=>some (OpR.val v h')|none=>none)=_
 cases q7E C t (st.ev C x) (st.ev C y) st.h<;>rfl
attribute [simp] a_copy
def pr(a b:Int):List AV:=[.int .i64 a,.int .i64 b]
def q3S:List AV:=pr (-1) (-1)
def repC(m k:Nat):List AV:=(List.replicate m q3S).flatten++(List.replicate (k-m) (pr 0 0)).flatten
theorem x8O{C:Ctx}{t:TypeId}{j:IntKind}(hj:j= .u64):q0B C .add t (.int .u64 0) (.int j 0)=some (.int .u64 0):=by subst hj;rfl
theorem z4e{C:Ctx}{t:TypeId}{j:IntKind}(hj:j= .u64):q0B C .and t (.int .u64 0) (.int j 4294967295)=some (.int .u64 0):=by subst hj;rfl
theorem z4d{C:Ctx}{t:TypeId}{j:IntKind}(hj:j= .u64):q0B C .and t (.int .u64 1) (.int j 4294967295)=some (.int .u64 1):=by subst hj;rfl
theorem z4c{C:Ctx}{t:TypeId}{j:IntKind}(hj:j= .u64):q0B C .and t (.int .u64 2) (.int j 4294967295)=some (.int .u64 2):=by subst hj;rfl
theorem z4b{C:Ctx}{t:TypeId}{j:IntKind}(hj:j= .u64):q0B C .and t (.int .u64 3) (.int j 4294967295)=some (.int .u64 3):=by subst hj;rfl
theorem z4a{C:Ctx}{t:TypeId}{j:IntKind}(hj:j= .u64):q0B C .and t (.int .u64 4) (.int j 4294967295)=some (.int .u64 4):=by subst hj;rfl
theorem x8N{C:Ctx}{t:TypeId}{j:IntKind}(hj:j= .u64):q0B C .mul t (.int .u64 0) (.int j 0)=some (.int .u64 0):=by subst hj;rfl
theorem x8M{C:Ctx}{t:TypeId}{j:IntKind}(hj:j= .u64):q0B C .mul t (.int .u64 0) (.int j 1)=some (.int .u64 0):=by subst hj;rfl
theorem x8L{C:Ctx}{t:TypeId}{j:IntKind}(hj:j= .u64):q0B C .mul t (.int .u64 0) (.int j 2)=some (.int .u64 0):=by subst hj;rfl
theorem x8K{C:Ctx}{t:TypeId}{j:IntKind}(hj:j= .u64):q0B C .mul t (.int .u64 0) (.int j 3)=some (.int .u64 0):=by subst hj;rfl
theorem x8J{C:Ctx}{t:TypeId}{j:IntKind}(hj:j= .u64):q0B C .mul t (.int .u64 0) (.int j 4)=some (.int .u64 0):=by subst hj;rfl
theorem x8I{C:Ctx}{t:TypeId}{j:IntKind}(hj:j= .u64):q0B C .mul t (.int .u64 1) (.int j 0)=some (.int .u64 0):=by subst hj;rfl
theorem x8H{C:Ctx}{t:TypeId}{j:IntKind}(hj:j= .u64):q0B C .mul t (.int .u64 1) (.int j 1)=some (.int .u64 1):=by subst hj;rfl
theorem x8G{C:Ctx}{t:TypeId}{j:IntKind}(hj:j= .u64):q0B C .mul t (.int .u64 1) (.int j 2)=some (.int .u64 2):=by subst hj;rfl
theorem x8F{C:Ctx}{t:TypeId}{j:IntKind}(hj:j= .u64):q0B C .mul t (.int .u64 1) (.int j 3)=some (.int .u64 3):=by subst hj;rfl
theorem x8E{C:Ctx}{t:TypeId}{j:IntKind}(hj:j= .u64):q0B C .mul t (.int .u64 1) (.int j 4)=some (.int .u64 4):=by subst hj;rfl
theorem x5R{C:Ctx}{t:TypeId}{j:IntKind}(hj:j= .u64):q0B C .shr t (.int .u64 0) (.int j 32)=some (.int .u64 0):=by subst hj;rfl
theorem x5Q{C:Ctx}{t:TypeId}{j:IntKind}(hj:j= .u64):q0B C .shr t (.int .u64 1) (.int j 32)=some (.int .u64 0):=by subst hj;rfl
theorem x5P{C:Ctx}{t:TypeId}{j:IntKind}(hj:j= .u64):q0B C .shr t (.int .u64 2) (.int j 32)=some (.int .u64 0):=by subst hj;rfl
theorem x5O{C:Ctx}{t:TypeId}{j:IntKind}(hj:j= .u64):q0B C .shr t (.int .u64 3) (.int j 32)=some (.int .u64 0):=by subst hj;rfl
theorem x5N{C:Ctx}{t:TypeId}{j:IntKind}(hj:j= .u64):q0B C .shr t (.int .u64 4) (.int j 32)=some (.int .u64 0):=by subst hj;rfl
attribute [local simp] x8O z4e z4d z4c z4b z4a x8N x8M x8L x8K x8J x8I x8H x8G x8F x8E x5R x5Q x5P x5O x5N
theorem Mul64_0(hP:POk Tryz.prog F gl K):PureC Tryz.prog F q1R [.int .u64 1,.int .u64 0] (.tup [.int .u64 0,.int .u64 0]):=by
 refine zP3 q3e ?_
 repeat' first|refine zR0 ?_|(refine Y2u ⟨.inr rfl,_,_,rfl,rfl,?_⟩;dsimp only[q0q])
theorem Mul_0(hP:POk Tryz.prog F gl K):PureC Tryz.prog F q2v [.int .u64 1,.int .u64 0] (.tup [.int .u64 0,.int .u64 0]):=by
 refine zP3 q4h ?_
 repeat' first|refine zR1 q3d (Mul64_0 hP) ?_|(refine Y2u ⟨.inr rfl,_,_,rfl,rfl,?_⟩;dsimp only[q0q])
theorem Mul64_1(hP:POk Tryz.prog F gl K):PureC Tryz.prog F q1R [.int .u64 1,.int .u64 1] (.tup [.int .u64 0,.int .u64 1]):=by
 refine zP3 q3e ?_
 repeat' first|refine zR0 ?_|(refine Y2u ⟨.inr rfl,_,_,rfl,rfl,?_⟩;dsimp only[q0q])
theorem Mul_1(hP:POk Tryz.prog F gl K):PureC Tryz.prog F q2v [.int .u64 1,.int .u64 1] (.tup [.int .u64 0,.int .u64 1]):=by
 refine zP3 q4h ?_
 repeat' first|refine zR1 q3d (Mul64_1 hP) ?_|(refine Y2u ⟨.inr rfl,_,_,rfl,rfl,?_⟩;dsimp only[q0q])
theorem Mul64_2(hP:POk Tryz.prog F gl K):PureC Tryz.prog F q1R [.int .u64 1,.int .u64 2] (.tup [.int .u64 0,.int .u64 2]):=by
 refine zP3 q3e ?_
 repeat' first|refine zR0 ?_|(refine Y2u ⟨.inr rfl,_,_,rfl,rfl,?_⟩;dsimp only[q0q])
theorem Mul_2(hP:POk Tryz.prog F gl K):PureC Tryz.prog F q2v [.int .u64 1,.int .u64 2] (.tup [.int .u64 0,.int .u64 2]):=by
 refine zP3 q4h ?_
 repeat' first|refine zR1 q3d (Mul64_2 hP) ?_|(refine Y2u ⟨.inr rfl,_,_,rfl,rfl,?_⟩;dsimp only[q0q])
theorem Mul64_3(hP:POk Tryz.prog F gl K):PureC Tryz.prog F q1R [.int .u64 1,.int .u64 3] (.tup [.int .u64 0,.int .u64 3]):=by
 refine zP3 q3e ?_
 repeat' first|refine zR0 ?_|(refine Y2u ⟨.inr rfl,_,_,rfl,rfl,?_⟩;dsimp only[q0q])
theorem Mul_3(hP:POk Tryz.prog F gl K):PureC Tryz.prog F q2v [.int .u64 1,.int .u64 3] (.tup [.int .u64 0,.int .u64 3]):=by
 refine zP3 q4h ?_
 repeat' first|refine zR1 q3d (Mul64_3 hP) ?_|(refine Y2u ⟨.inr rfl,_,_,rfl,rfl,?_⟩;dsimp only[q0q])
theorem Mul64_4(hP:POk Tryz.prog F gl K):PureC Tryz.prog F q1R [.int .u64 1,.int .u64 4] (.tup [.int .u64 0,.int .u64 4]):=by
 refine zP3 q3e ?_
 repeat' first|refine zR0 ?_|(refine Y2u ⟨.inr rfl,_,_,rfl,rfl,?_⟩;dsimp only[q0q])
theorem Mul_4(hP:POk Tryz.prog F gl K):PureC Tryz.prog F q2v [.int .u64 1,.int .u64 4] (.tup [.int .u64 0,.int .u64 4]):=by
 refine zP3 q4h ?_
 repeat' first|refine zR1 q3d (Mul64_4 hP) ?_|(refine Y2u ⟨.inr rfl,_,_,rfl,rfl,?_⟩;dsimp only[q0q])
theorem q4b{C:Ctx}{h:Hp}{t eT:TypeId}{es p o n cap k c:Nat}{b:Bool}{src:AV}{new cs:List AV}(ht:slT C t eT es=true)(hl:lenA src=some k)(hc:(bif Nat.ble k n then k else n)=c)(hs:q0N h es c src=some new)(hcell:new.all q1f=true)(hnl:new.length=c*es)(hp:h.get p=some (.cells eT cs))(ho:o+new.length≤cs.length):
  q7E C t (.sl p o n cap es b) src h=some (.int .i64 (.ofNat c),h.put p (.cells eT (q1h cs o new))):=by
 unfold slT at ht
 split at ht
 case h_2=>cases ht
 rename_i e size isAgg zero zeroOk bytes comparable zv y hti hy
 simp only[Y1X,Y2h]at ht
 obtain⟨rfl,hys,hz,hby⟩:=ht
 have h1:Nat.beq es y.size=true:=by rw[hys,Y1o]
 have h2:Nat.beq new.length (Nat.mul c y.size)=true:=by rw[hnl,hys];exact Y1o _
 have h3:Nat.ble (Nat.add o new.length) cs.length=true:=Y1x ho
 unfold q7E
 rw[hti,hl,show lenA (.sl p o n cap es b)=some n from rfl]
 dsimp only
 rw[hy]
 dsimp only
 rw[hc,hys,hs]
 dsimp only
 rw[hp]
 dsimp only
 rw[hcell,h3]
 rw[hys]at h1 h2
 rw[h1,h2]
 rfl
theorem q3C:slT (Ctx.of Tryz.prog gl K) q0Y q0X 2=true:=by kernel_rfl
theorem cp0_0{h:Hp}{p r:Nat}(hp:h.get p=some (.cells q0X (repC 0 0)))(hr:h.get r=some (.cells q0X q3S)):q7E (Ctx.of Tryz.prog gl K) q0Y (.sl p 0 0 0 2 true) (.sl r 0 1 1 2 true) h=some (.int .i64 0,h.put p (.cells q0X (repC 0 0))):=
 q4b (c:=0) (k:=1) (new:=(List.replicate 0 q3S).flatten) q3C rfl rfl (by unfold q0N;dsimp only;rw[hr];rfl) rfl rfl hp (by decide)
theorem cp0_1{h:Hp}{p r:Nat}(hp:h.get p=some (.cells q0X (repC 0 1)))(hr:h.get r=some (.cells q0X q3S)):q7E (Ctx.of Tryz.prog gl K) q0Y (.sl p 0 1 1 2 true) (.sl r 0 1 1 2 true) h=some (.int .i64 1,h.put p (.cells q0X (repC 1 1))):=
 q4b (c:=1) (k:=1) (new:=(List.replicate 1 q3S).flatten) q3C rfl rfl (by unfold q0N;dsimp only;rw[hr];rfl) rfl rfl hp (by decide)
theorem cp0_2{h:Hp}{p r:Nat}(hp:h.get p=some (.cells q0X (repC 0 2)))(hr:h.get r=some (.cells q0X q3S)):q7E (Ctx.of Tryz.prog gl K) q0Y (.sl p 0 2 2 2 true) (.sl r 0 1 1 2 true) h=some (.int .i64 1,h.put p (.cells q0X (repC 1 2))):=
 q4b (c:=1) (k:=1) (new:=(List.replicate 1 q3S).flatten) q3C rfl rfl (by unfold q0N;dsimp only;rw[hr];rfl) rfl rfl hp (by decide)
theorem cp_1_2{h:Hp}{p:Nat}(hp:h.get p=some (.cells q0X (repC 1 2))):q7E (Ctx.of Tryz.prog gl K) q0Y (.sl p 2 1 1 2 true) (.sl p 0 1 2 2 true) h=some (.int .i64 1,h.put p (.cells q0X (repC 2 2))):=
 q4b (c:=1) (k:=1) (new:=(List.replicate 1 q3S).flatten) q3C rfl rfl (by unfold q0N;dsimp only;rw[hp];rfl) rfl rfl hp (by decide)
theorem cp0_3{h:Hp}{p r:Nat}(hp:h.get p=some (.cells q0X (repC 0 3)))(hr:h.get r=some (.cells q0X q3S)):q7E (Ctx.of Tryz.prog gl K) q0Y (.sl p 0 3 3 2 true) (.sl r 0 1 1 2 true) h=some (.int .i64 1,h.put p (.cells q0X (repC 1 3))):=
 q4b (c:=1) (k:=1) (new:=(List.replicate 1 q3S).flatten) q3C rfl rfl (by unfold q0N;dsimp only;rw[hr];rfl) rfl rfl hp (by decide)
theorem cp_1_3{h:Hp}{p:Nat}(hp:h.get p=some (.cells q0X (repC 1 3))):q7E (Ctx.of Tryz.prog gl K) q0Y (.sl p 2 2 2 2 true) (.sl p 0 1 3 2 true) h=some (.int .i64 1,h.put p (.cells q0X (repC 2 3))):=
 q4b (c:=1) (k:=1) (new:=(List.replicate 1 q3S).flatten) q3C rfl rfl (by unfold q0N;dsimp only;rw[hp];rfl) rfl rfl hp (by decide)
theorem cp_2_3{h:Hp}{p:Nat}(hp:h.get p=some (.cells q0X (repC 2 3))):q7E (Ctx.of Tryz.prog gl K) q0Y (.sl p 4 1 1 2 true) (.sl p 0 2 3 2 true) h=some (.int .i64 1,h.put p (.cells q0X (repC 3 3))):=
 q4b (c:=1) (k:=2) (new:=(List.replicate 1 q3S).flatten) q3C rfl rfl (by unfold q0N;dsimp only;rw[hp];rfl) rfl rfl hp (by decide)
theorem cp0_4{h:Hp}{p r:Nat}(hp:h.get p=some (.cells q0X (repC 0 4)))(hr:h.get r=some (.cells q0X q3S)):q7E (Ctx.of Tryz.prog gl K) q0Y (.sl p 0 4 4 2 true) (.sl r 0 1 1 2 true) h=some (.int .i64 1,h.put p (.cells q0X (repC 1 4))):=
 q4b (c:=1) (k:=1) (new:=(List.replicate 1 q3S).flatten) q3C rfl rfl (by unfold q0N;dsimp only;rw[hr];rfl) rfl rfl hp (by decide)
theorem cp_1_4{h:Hp}{p:Nat}(hp:h.get p=some (.cells q0X (repC 1 4))):q7E (Ctx.of Tryz.prog gl K) q0Y (.sl p 2 3 3 2 true) (.sl p 0 1 4 2 true) h=some (.int .i64 1,h.put p (.cells q0X (repC 2 4))):=
 q4b (c:=1) (k:=1) (new:=(List.replicate 1 q3S).flatten) q3C rfl rfl (by unfold q0N;dsimp only;rw[hp];rfl) rfl rfl hp (by decide)
theorem cp_2_4{h:Hp}{p:Nat}(hp:h.get p=some (.cells q0X (repC 2 4))):q7E (Ctx.of Tryz.prog gl K) q0Y (.sl p 4 2 2 2 true) (.sl p 0 2 4 2 true) h=some (.int .i64 2,h.put p (.cells q0X (repC 4 4))):=
 q4b (c:=2) (k:=2) (new:=(List.replicate 2 q3S).flatten) q3C rfl rfl (by unfold q0N;dsimp only;rw[hp];rfl) rfl rfl hp (by decide)
theorem cp_3_4{h:Hp}{p:Nat}(hp:h.get p=some (.cells q0X (repC 3 4))):q7E (Ctx.of Tryz.prog gl K) q0Y (.sl p 6 1 1 2 true) (.sl p 0 3 4 2 true) h=some (.int .i64 1,h.put p (.cells q0X (repC 4 4))):=
 q4b (c:=1) (k:=3) (new:=(List.replicate 1 q3S).flatten) q3C rfl rfl (by unfold q0N;dsimp only;rw[hp];rfl) rfl rfl hp (by decide)
theorem Repeat_0(hP:POk Tryz.prog F gl K)(hX:∀f a,K.ext f a=none){h0:Hp}{r:Nat}(hr:h0.get r=some (.cells q0X q3S))(hrn:r<h0.nx):
  CallsT Tryz.prog F h0 (fun v g=>v= .sl h0.nx 0 0 0 2 true∧h0.nx<g.nx∧g.get h0.nx=some (.cells q0X (repC 0 0))∧Wid h0 g) q0H [.sl r 0 1 1 2 true,.int .i64 0]:=by
 refine Y2y hP q0f q1t rfl rfl ?_
 have c1:q8n (Ctx.of Tryz.prog gl K) 3 163 (.int .i64 1)=some (.int .u64 1):=by kernel_rfl
 have c2:q8n (Ctx.of Tryz.prog gl K) 3 163 (.int .i64 0)=some (.int .u64 0):=by kernel_rfl
 have c3:q8n (Ctx.of Tryz.prog gl K) 163 3 (.int .u64 0)=some (.int .i64 0):=by kernel_rfl
 have c4:q0B (Ctx.of Tryz.prog gl K) .gtr 163 (.int .u64 0) (.int .u64 0)=some (.bool false):=rfl
 have c5:q0B (Ctx.of Tryz.prog gl K) .gtr 163 (.int .u64 0) (.int .u64 9223372036854775807)=some (.bool false):=rfl
 have c6:makeSlice (Ctx.of Tryz.prog gl K) q0Y (.int .i64 0) (.int .i64 0) h0=some (.sl h0.nx 0 0 0 2 true,h0.new (.cells q0X (repC 0 0))):=rfl
 have c7:=cp0_0 (gl:=gl) (K:=K) (h:=h0.new (.cells q0X (repC 0 0))) (p:=h0.nx) (r:=r) (by rw[get_new,Y0e rfl]) (by rw[get_new,Y0c (by omega)];exact hr)
 dsimp only[q0Y]at c6 c7
 repeat' first|refine Y2v ?_|refine Y2x ?_|refine Y2s ?_|refine Y2J hP rfl ?_|(refine Y2W hP (by simp[c1,c2,c3,c4,c5,c6,c7,q3I]<;>rfl) ?_;dsimp only[goK])|(refine Y2O hP q4g (Mul_0 hP) ?_ rfl rfl rfl rfl ?_;(focus(simp;done));refine Y2X hP (by simp[c1,c2,c3,c4,c5,c6,c7,q3I]<;>rfl) ?_;dsimp only[goK])
 refine Y2H (fun q:Nat=>[(7,.sl h0.nx 0 0 0 2 true),(8,.int .i64 q)]) (fun q g=>0≤q∧q≤0∧g.get h0.nx=some (.cells q0X (repC q 0))∧Wid h0 g∧h0.nx<g.nx) (fun q=>0-q) (0) ?_ ?_ ?_
 focus(repeat' first|exact q0h|refine q0e (by simp) ?_)
 ·exact⟨Y0u _,by omega,by rw[get_put,Y0e rfl],⟨by show h0.nx≤h0.nx+1;omega,fun s hs=>by rw[get_put,Y0c (by omega),get_new,Y0c (by omega)]⟩,by show h0.nx<h0.nx+1;omega⟩
 rintro q g ⟨hq1,hq2,hg,hw,hn⟩
 obtain rfl:q=0:=by omega
 refine zA0 ?_
 exact⟨trivial,hn,hg,hw⟩
theorem Repeat_1(hP:POk Tryz.prog F gl K)(hX:∀f a,K.ext f a=none){h0:Hp}{r:Nat}(hr:h0.get r=some (.cells q0X q3S))(hrn:r<h0.nx):
  CallsT Tryz.prog F h0 (fun v g=>v= .sl h0.nx 0 1 1 2 true∧h0.nx<g.nx∧g.get h0.nx=some (.cells q0X (repC 1 1))∧Wid h0 g) q0H [.sl r 0 1 1 2 true,.int .i64 1]:=by
 refine Y2y hP q0f q1t rfl rfl ?_
 have c1:q8n (Ctx.of Tryz.prog gl K) 3 163 (.int .i64 1)=some (.int .u64 1):=by kernel_rfl
 have c2:q8n (Ctx.of Tryz.prog gl K) 3 163 (.int .i64 1)=some (.int .u64 1):=by kernel_rfl
 have c3:q8n (Ctx.of Tryz.prog gl K) 163 3 (.int .u64 1)=some (.int .i64 1):=by kernel_rfl
 have c4:q0B (Ctx.of Tryz.prog gl K) .gtr 163 (.int .u64 0) (.int .u64 0)=some (.bool false):=rfl
 have c5:q0B (Ctx.of Tryz.prog gl K) .gtr 163 (.int .u64 1) (.int .u64 9223372036854775807)=some (.bool false):=rfl
 have c6:makeSlice (Ctx.of Tryz.prog gl K) q0Y (.int .i64 1) (.int .i64 1) h0=some (.sl h0.nx 0 1 1 2 true,h0.new (.cells q0X (repC 0 1))):=rfl
 have c7:=cp0_1 (gl:=gl) (K:=K) (h:=h0.new (.cells q0X (repC 0 1))) (p:=h0.nx) (r:=r) (by rw[get_new,Y0e rfl]) (by rw[get_new,Y0c (by omega)];exact hr)
 dsimp only[q0Y]at c6 c7
 repeat' first|refine Y2v ?_|refine Y2x ?_|refine Y2s ?_|refine Y2J hP rfl ?_|(refine Y2W hP (by simp[c1,c2,c3,c4,c5,c6,c7,q3I]<;>rfl) ?_;dsimp only[goK])|(refine Y2O hP q4g (Mul_1 hP) ?_ rfl rfl rfl rfl ?_;(focus(simp;done));refine Y2X hP (by simp[c1,c2,c3,c4,c5,c6,c7,q3I]<;>rfl) ?_;dsimp only[goK])
 refine Y2H (fun q:Nat=>[(7,.sl h0.nx 0 1 1 2 true),(8,.int .i64 q)]) (fun q g=>1≤q∧q≤1∧g.get h0.nx=some (.cells q0X (repC q 1))∧Wid h0 g∧h0.nx<g.nx) (fun q=>1-q) (1) ?_ ?_ ?_
 focus(repeat' first|exact q0h|refine q0e (by simp) ?_)
 ·exact⟨Y0u _,by omega,by rw[get_put,Y0e rfl],⟨by show h0.nx≤h0.nx+1;omega,fun s hs=>by rw[get_put,Y0c (by omega),get_new,Y0c (by omega)]⟩,by show h0.nx<h0.nx+1;omega⟩
 rintro q g ⟨hq1,hq2,hg,hw,hn⟩
 refine zR0 ?_
 refine Y2w hP rfl (fun hc=>Y2s ?_) (fun hc=>Y2t ?_)
 ·simp at hc
  omega
 ·simp at hc
  obtain rfl:q=1:=by omega
  dsimp only[q0a]
  refine zA0 ?_
  exact⟨trivial,hn,hg,hw⟩
theorem Repeat_2(hP:POk Tryz.prog F gl K)(hX:∀f a,K.ext f a=none){h0:Hp}{r:Nat}(hr:h0.get r=some (.cells q0X q3S))(hrn:r<h0.nx):
  CallsT Tryz.prog F h0 (fun v g=>v= .sl h0.nx 0 2 2 2 true∧h0.nx<g.nx∧g.get h0.nx=some (.cells q0X (repC 2 2))∧Wid h0 g) q0H [.sl r 0 1 1 2 true,.int .i64 2]:=by
 refine Y2y hP q0f q1t rfl rfl ?_
 have c1:q8n (Ctx.of Tryz.prog gl K) 3 163 (.int .i64 1)=some (.int .u64 1):=by kernel_rfl
 have c2:q8n (Ctx.of Tryz.prog gl K) 3 163 (.int .i64 2)=some (.int .u64 2):=by kernel_rfl
 have c3:q8n (Ctx.of Tryz.prog gl K) 163 3 (.int .u64 2)=some (.int .i64 2):=by kernel_rfl
 have c4:q0B (Ctx.of Tryz.prog gl K) .gtr 163 (.int .u64 0) (.int .u64 0)=some (.bool false):=rfl
 have c5:q0B (Ctx.of Tryz.prog gl K) .gtr 163 (.int .u64 2) (.int .u64 9223372036854775807)=some (.bool false):=rfl
 have c6:makeSlice (Ctx.of Tryz.prog gl K) q0Y (.int .i64 2) (.int .i64 2) h0=some (.sl h0.nx 0 2 2 2 true,h0.new (.cells q0X (repC 0 2))):=rfl
 have c7:=cp0_2 (gl:=gl) (K:=K) (h:=h0.new (.cells q0X (repC 0 2))) (p:=h0.nx) (r:=r) (by rw[get_new,Y0e rfl]) (by rw[get_new,Y0c (by omega)];exact hr)
 dsimp only[q0Y]at c6 c7
 repeat' first|refine Y2v ?_|refine Y2x ?_|refine Y2s ?_|refine Y2J hP rfl ?_|(refine Y2W hP (by simp[c1,c2,c3,c4,c5,c6,c7,q3I]<;>rfl) ?_;dsimp only[goK])|(refine Y2O hP q4g (Mul_2 hP) ?_ rfl rfl rfl rfl ?_;(focus(simp;done));refine Y2X hP (by simp[c1,c2,c3,c4,c5,c6,c7,q3I]<;>rfl) ?_;dsimp only[goK])
 refine Y2H (fun q:Nat=>[(7,.sl h0.nx 0 2 2 2 true),(8,.int .i64 q)]) (fun q g=>1≤q∧q≤2∧g.get h0.nx=some (.cells q0X (repC q 2))∧Wid h0 g∧h0.nx<g.nx) (fun q=>2-q) (1) ?_ ?_ ?_
 focus(repeat' first|exact q0h|refine q0e (by simp) ?_)
 ·exact⟨Y0u _,by omega,by rw[get_put,Y0e rfl],⟨by show h0.nx≤h0.nx+1;omega,fun s hs=>by rw[get_put,Y0c (by omega),get_new,Y0c (by omega)]⟩,by show h0.nx<h0.nx+1;omega⟩
 rintro q g ⟨hq1,hq2,hg,hw,hn⟩
 refine zR0 ?_
 refine Y2w hP rfl (fun hc=>Y2s ?_) (fun hc=>Y2t ?_)
 ·simp at hc
  dsimp only[q0a]
  obtain rfl:=(show q=1 by omega)
  ·have c8:=cp_1_2 (gl:=gl) (K:=K.tell []) (h:=g.up) (p:=h0.nx) (by rw[q4z];exact hg)
   have c9:∀h,q2t (Ctx.of Tryz.prog gl (K.tell [])) q0Y (.sl h0.nx 0 2 2 2 true) (some (.int .i64 1)) none none h=some (.sl h0.nx 2 1 1 2 true):=fun _=>rfl
   have c10:∀h,q2t (Ctx.of Tryz.prog gl (K.tell [])) q0Y (.sl h0.nx 0 2 2 2 true) none (some (.int .i64 1)) none h=some (.sl h0.nx 0 1 2 2 true):=fun _=>rfl
   dsimp only[q0Y]at c8 c9 c10
   refine zHf (zc @c8 (zc @c9 (zc @c10 (show¬g.nx≤h0.nx by omega)))) t0 (zw [0,0,0,6,0,0,48,126,255,511]) ?_
   refine⟨2,by dsimp only;omega,rfl,?_,by omega,by omega,by simp[get_put],⟨by show h0.nx≤g.nx;omega,fun s hs=> ?_⟩,by show h0.nx<g.nx;omega⟩
   exact zL
   rw[q4G,get_put,Y0c (by omega)]
   exact hw.get s hs
 ·simp at hc
  obtain rfl:q=2:=by omega
  dsimp only[q0a]
  refine zA0 ?_
  exact⟨trivial,hn,hg,hw⟩
theorem Repeat_3(hP:POk Tryz.prog F gl K)(hX:∀f a,K.ext f a=none){h0:Hp}{r:Nat}(hr:h0.get r=some (.cells q0X q3S))(hrn:r<h0.nx):
  CallsT Tryz.prog F h0 (fun v g=>v= .sl h0.nx 0 3 3 2 true∧h0.nx<g.nx∧g.get h0.nx=some (.cells q0X (repC 3 3))∧Wid h0 g) q0H [.sl r 0 1 1 2 true,.int .i64 3]:=by
 refine Y2y hP q0f q1t rfl rfl ?_
 have c1:q8n (Ctx.of Tryz.prog gl K) 3 163 (.int .i64 1)=some (.int .u64 1):=by kernel_rfl
 have c2:q8n (Ctx.of Tryz.prog gl K) 3 163 (.int .i64 3)=some (.int .u64 3):=by kernel_rfl
 have c3:q8n (Ctx.of Tryz.prog gl K) 163 3 (.int .u64 3)=some (.int .i64 3):=by kernel_rfl
 have c4:q0B (Ctx.of Tryz.prog gl K) .gtr 163 (.int .u64 0) (.int .u64 0)=some (.bool false):=rfl
 have c5:q0B (Ctx.of Tryz.prog gl K) .gtr 163 (.int .u64 3) (.int .u64 9223372036854775807)=some (.bool false):=rfl
 have c6:makeSlice (Ctx.of Tryz.prog gl K) q0Y (.int .i64 3) (.int .i64 3) h0=some (.sl h0.nx 0 3 3 2 true,h0.new (.cells q0X (repC 0 3))):=rfl
 have c7:=cp0_3 (gl:=gl) (K:=K) (h:=h0.new (.cells q0X (repC 0 3))) (p:=h0.nx) (r:=r) (by rw[get_new,Y0e rfl]) (by rw[get_new,Y0c (by omega)];exact hr)
 dsimp only[q0Y]at c6 c7
 repeat' first|refine Y2v ?_|refine Y2x ?_|refine Y2s ?_|refine Y2J hP rfl ?_|(refine Y2W hP (by simp[c1,c2,c3,c4,c5,c6,c7,q3I]<;>rfl) ?_;dsimp only[goK])|(refine Y2O hP q4g (Mul_3 hP) ?_ rfl rfl rfl rfl ?_;(focus(simp;done));refine Y2X hP (by simp[c1,c2,c3,c4,c5,c6,c7,q3I]<;>rfl) ?_;dsimp only[goK])
 refine Y2H (fun q:Nat=>[(7,.sl h0.nx 0 3 3 2 true),(8,.int .i64 q)]) (fun q g=>1≤q∧q≤3∧g.get h0.nx=some (.cells q0X (repC q 3))∧Wid h0 g∧h0.nx<g.nx) (fun q=>3-q) (1) ?_ ?_ ?_
 focus(repeat' first|exact q0h|refine q0e (by simp) ?_)
 ·exact⟨Y0u _,by omega,by rw[get_put,Y0e rfl],⟨by show h0.nx≤h0.nx+1;omega,fun s hs=>by rw[get_put,Y0c (by omega),get_new,Y0c (by omega)]⟩,by show h0.nx<h0.nx+1;omega⟩
 rintro q g ⟨hq1,hq2,hg,hw,hn⟩
 refine zR0 ?_
 refine Y2w hP rfl (fun hc=>Y2s ?_) (fun hc=>Y2t ?_)
 ·simp at hc
  dsimp only[q0a]
  obtain rfl|rfl:=(show q=1∨q=2 by omega)
  ·have c8:=cp_1_3 (gl:=gl) (K:=K.tell []) (h:=g.up) (p:=h0.nx) (by rw[q4z];exact hg)
   have c9:∀h,q2t (Ctx.of Tryz.prog gl (K.tell [])) q0Y (.sl h0.nx 0 3 3 2 true) (some (.int .i64 1)) none none h=some (.sl h0.nx 2 2 2 2 true):=fun _=>rfl
   have c10:∀h,q2t (Ctx.of Tryz.prog gl (K.tell [])) q0Y (.sl h0.nx 0 3 3 2 true) none (some (.int .i64 1)) none h=some (.sl h0.nx 0 1 3 2 true):=fun _=>rfl
   dsimp only[q0Y]at c8 c9 c10
   refine zHf (zc @c8 (zc @c9 (zc @c10 (show¬g.nx≤h0.nx by omega)))) t0 (zw [0,0,0,6,0,0,48,126,255,511]) ?_
   refine⟨2,by dsimp only;omega,rfl,?_,by omega,by omega,by simp[get_put],⟨by show h0.nx≤g.nx;omega,fun s hs=> ?_⟩,by show h0.nx<g.nx;omega⟩
   exact zL
   rw[q4G,get_put,Y0c (by omega)]
   exact hw.get s hs
  ·have c8:=cp_2_3 (gl:=gl) (K:=K.tell []) (h:=g.up) (p:=h0.nx) (by rw[q4z];exact hg)
   have c9:∀h,q2t (Ctx.of Tryz.prog gl (K.tell [])) q0Y (.sl h0.nx 0 3 3 2 true) (some (.int .i64 2)) none none h=some (.sl h0.nx 4 1 1 2 true):=fun _=>rfl
   have c10:∀h,q2t (Ctx.of Tryz.prog gl (K.tell [])) q0Y (.sl h0.nx 0 3 3 2 true) none (some (.int .i64 2)) none h=some (.sl h0.nx 0 2 3 2 true):=fun _=>rfl
   dsimp only[q0Y]at c8 c9 c10
   refine zHf (zc @c8 (zc @c9 (zc @c10 (show¬g.nx≤h0.nx by omega)))) t0 (zw [0,0,0,6,0,0,48,126,255,511]) ?_
   refine⟨3,by dsimp only;omega,rfl,?_,by omega,by omega,by simp[get_put],⟨by show h0.nx≤g.nx;omega,fun s hs=> ?_⟩,by show h0.nx<g.nx;omega⟩
   exact zL
   rw[q4G,get_put,Y0c (by omega)]
   exact hw.get s hs
 ·simp at hc
  obtain rfl:q=3:=by omega
  dsimp only[q0a]
  refine zA0 ?_
  exact⟨trivial,hn,hg,hw⟩
theorem Repeat_4(hP:POk Tryz.prog F gl K)(hX:∀f a,K.ext f a=none){h0:Hp}{r:Nat}(hr:h0.get r=some (.cells q0X q3S))(hrn:r<h0.nx):
  CallsT Tryz.prog F h0 (fun v g=>v= .sl h0.nx 0 4 4 2 true∧h0.nx<g.nx∧g.get h0.nx=some (.cells q0X (repC 4 4))∧Wid h0 g) q0H [.sl r 0 1 1 2 true,.int .i64 4]:=by
 refine Y2y hP q0f q1t rfl rfl ?_
 have c1:q8n (Ctx.of Tryz.prog gl K) 3 163 (.int .i64 1)=some (.int .u64 1):=by kernel_rfl
 have c2:q8n (Ctx.of Tryz.prog gl K) 3 163 (.int .i64 4)=some (.int .u64 4):=by kernel_rfl
 have c3:q8n (Ctx.of Tryz.prog gl K) 163 3 (.int .u64 4)=some (.int .i64 4):=by kernel_rfl
 have c4:q0B (Ctx.of Tryz.prog gl K) .gtr 163 (.int .u64 0) (.int .u64 0)=some (.bool false):=rfl
 have c5:q0B (Ctx.of Tryz.prog gl K) .gtr 163 (.int .u64 4) (.int .u64 9223372036854775807)=some (.bool false):=rfl
 have c6:makeSlice (Ctx.of Tryz.prog gl K) q0Y (.int .i64 4) (.int .i64 4) h0=some (.sl h0.nx 0 4 4 2 true,h0.new (.cells q0X (repC 0 4))):=rfl
 have c7:=cp0_4 (gl:=gl) (K:=K) (h:=h0.new (.cells q0X (repC 0 4))) (p:=h0.nx) (r:=r) (by rw[get_new,Y0e rfl]) (by rw[get_new,Y0c (by omega)];exact hr)
 dsimp only[q0Y]at c6 c7
 repeat' first|refine Y2v ?_|refine Y2x ?_|refine Y2s ?_|refine Y2J hP rfl ?_|(refine Y2W hP (by simp[c1,c2,c3,c4,c5,c6,c7,q3I]<;>rfl) ?_;dsimp only[goK])|(refine Y2O hP q4g (Mul_4 hP) ?_ rfl rfl rfl rfl ?_;(focus(simp;done));refine Y2X hP (by simp[c1,c2,c3,c4,c5,c6,c7,q3I]<;>rfl) ?_;dsimp only[goK])
 refine Y2H (fun q:Nat=>[(7,.sl h0.nx 0 4 4 2 true),(8,.int .i64 q)]) (fun q g=>1≤q∧q≤4∧g.get h0.nx=some (.cells q0X (repC q 4))∧Wid h0 g∧h0.nx<g.nx) (fun q=>4-q) (1) ?_ ?_ ?_
 focus(repeat' first|exact q0h|refine q0e (by simp) ?_)
 ·exact⟨Y0u _,by omega,by rw[get_put,Y0e rfl],⟨by show h0.nx≤h0.nx+1;omega,fun s hs=>by rw[get_put,Y0c (by omega),get_new,Y0c (by omega)]⟩,by show h0.nx<h0.nx+1;omega⟩
 rintro q g ⟨hq1,hq2,hg,hw,hn⟩
 refine zR0 ?_
 refine Y2w hP rfl (fun hc=>Y2s ?_) (fun hc=>Y2t ?_)
 ·simp at hc
  dsimp only[q0a]
  obtain rfl|rfl|rfl:=(show q=1∨q=2∨q=3 by omega)
  ·have c8:=cp_1_4 (gl:=gl) (K:=K.tell []) (h:=g.up) (p:=h0.nx) (by rw[q4z];exact hg)
   have c9:∀h,q2t (Ctx.of Tryz.prog gl (K.tell [])) q0Y (.sl h0.nx 0 4 4 2 true) (some (.int .i64 1)) none none h=some (.sl h0.nx 2 3 3 2 true):=fun _=>rfl
   have c10:∀h,q2t (Ctx.of Tryz.prog gl (K.tell [])) q0Y (.sl h0.nx 0 4 4 2 true) none (some (.int .i64 1)) none h=some (.sl h0.nx 0 1 4 2 true):=fun _=>rfl
   dsimp only[q0Y]at c8 c9 c10
   refine zHf (zc @c8 (zc @c9 (zc @c10 (show¬g.nx≤h0.nx by omega)))) t0 (zw [0,0,0,6,0,0,48,126,255,511]) ?_
   refine⟨2,by dsimp only;omega,rfl,?_,by omega,by omega,by simp[get_put],⟨by show h0.nx≤g.nx;omega,fun s hs=> ?_⟩,by show h0.nx<g.nx;omega⟩
   exact zL
   rw[q4G,get_put,Y0c (by omega)]
   exact hw.get s hs
  ·have c8:=cp_2_4 (gl:=gl) (K:=K.tell []) (h:=g.up) (p:=h0.nx) (by rw[q4z];exact hg)
   have c9:∀h,q2t (Ctx.of Tryz.prog gl (K.tell [])) q0Y (.sl h0.nx 0 4 4 2 true) (some (.int .i64 2)) none none h=some (.sl h0.nx 4 2 2 2 true):=fun _=>rfl
   have c10:∀h,q2t (Ctx.of Tryz.prog gl (K.tell [])) q0Y (.sl h0.nx 0 4 4 2 true) none (some (.int .i64 2)) none h=some (.sl h0.nx 0 2 4 2 true):=fun _=>rfl
   dsimp only[q0Y]at c8 c9 c10
   refine zHf (zc @c8 (zc @c9 (zc @c10 (show¬g.nx≤h0.nx by omega)))) t0 (zw [0,0,0,6,0,0,48,126,255,511]) ?_
   refine⟨4,by dsimp only;omega,rfl,?_,by omega,by omega,by simp[get_put],⟨by show h0.nx≤g.nx;omega,fun s hs=> ?_⟩,by show h0.nx<g.nx;omega⟩
   exact zL
   rw[q4G,get_put,Y0c (by omega)]
   exact hw.get s hs
  ·have c8:=cp_3_4 (gl:=gl) (K:=K.tell []) (h:=g.up) (p:=h0.nx) (by rw[q4z];exact hg)
   have c9:∀h,q2t (Ctx.of Tryz.prog gl (K.tell [])) q0Y (.sl h0.nx 0 4 4 2 true) (some (.int .i64 3)) none none h=some (.sl h0.nx 6 1 1 2 true):=fun _=>rfl
   have c10:∀h,q2t (Ctx.of Tryz.prog gl (K.tell [])) q0Y (.sl h0.nx 0 4 4 2 true) none (some (.int .i64 3)) none h=some (.sl h0.nx 0 3 4 2 true):=fun _=>rfl
   dsimp only[q0Y]at c8 c9 c10
   refine zHf (zc @c8 (zc @c9 (zc @c10 (show¬g.nx≤h0.nx by omega)))) t0 (zw [0,0,0,6,0,0,48,126,255,511]) ?_
   refine⟨4,by dsimp only;omega,rfl,?_,by omega,by omega,by simp[get_put],⟨by show h0.nx≤g.nx;omega,fun s hs=> ?_⟩,by show h0.nx<g.nx;omega⟩
   exact zL
   rw[q4G,get_put,Y0c (by omega)]
   exact hw.get s hs
 ·simp at hc
  obtain rfl:q=4:=by omega
  dsimp only[q0a]
  refine zA0 ?_
  exact⟨trivial,hn,hg,hw⟩
end Go.Ax
noncomputable section
namespace Go.Ax
variable{P:Program}{F:Nat→Option Obj}{gl:Nat→AV}{K:Knob}{n:Nat}{rd:Option Nat}{l:Kn}{h h':Hp}{ds:List ADef}{Q:PQ}{all rest:List Oper}{m:Loc}
def rawS(ad:Option Addr)(cap:Nat):AV:=.raw (.slice ad 0 cap)
theorem VRel.rawS{ad:Option Addr}{cap:Nat}:VRel P F m (rawS ad cap) (.slice ad 0 cap):=.raw rfl
theorem VRel.rawS_inv{ad:Option Addr}{cap:Nat}{c:Value}(H:VRel P F m (Go.Ax.rawS ad cap) c):c= .slice ad 0 cap:=by cases H;rfl
theorem VRel.rawS_isl{ad:Option Addr}{cap:Nat}{c:Value}(H:VRel P F m (Go.Ax.rawS ad cap) c):VRel P F m (.isl []) c:=by
 rw[H.rawS_inv];exact .isl0 _ _
theorem VRel.openRow{rows:List (List AV)}{row:List AV}{i j:Nat}{c:Value}(H:VRel P F m (.isl rows) c)(hr:rows[i]? =some row)(hj:row[j]? =some (.isl [])):∃ad cap,VRel P F m (.isl (rows.set i (row.set j (Go.Ax.rawS ad cap)))) c:=by
  cases H with
  |isl0 a cap=>simp at hr
  | isl es f hF hl hes hf hc=>
    have hil:=(Y0m.1 hr).1
    have hjl:=(Y0m.1 hj).1
    obtain⟨ad,cap,hv⟩:=(hc i j row _ hr hj).isl0_inv
    refine⟨ad,cap,?_⟩
    have hlen:(rows.set i (row.set j (Go.Ax.rawS ad cap))).length=rows.length:=List.length_set
    have key:=VRel.isl (P:=P) (F:=F) (m:=m) (xs:=rows.set i (row.set j (Go.Ax.rawS ad cap))) es f hF (by rw[hlen];exact hl) (fun c hc'=>by
        rcases List.mem_or_eq_of_mem_set hc' with h1|rfl
        ·exact hes c h1
        ·rw[List.length_set];exact hes row (Y0N hr)) (fun i' j' h1 h2=>hf i' j' (by rwa [hlen]at h1) h2) (fun i' j' c' x hc' hx=>by
        rw[Y1I]at hc'
        by_cases e:i=i'
        · subst e
          rw[Y0e rfl,Y0e hil]at hc'
          cases hc'
          rw[Y1I]at hx
          by_cases e:j=j'
          · subst e
            rw[Y0e rfl,Y0e hjl]at hx
            cases hx
            rw[hv]
            exact .rawS
          · rw[Y0c e]at hx
            exact hc i j' row x hr hx
        · rw[Y0c e]at hc'
          exact hc i' j' c' x hc' hx)
    rw[hlen]at key
    exact key
theorem VRel.shutRow{rows:List (List AV)}{row:List AV}{i j:Nat}{c:Value}{ad:Option Addr}{cap:Nat}(hr:rows[i]? =some row)(hj:row[j]? =some (.isl []))(H:VRel P F m (.isl (rows.set i (row.set j (Go.Ax.rawS ad cap)))) c):VRel P F m (.isl rows) c:=by
  have hil:=(Y0m.1 hr).1
  have hjl:=(Y0m.1 hj).1
  have hlen:(rows.set i (row.set j (Go.Ax.rawS ad cap))).length=rows.length:=List.length_set
  obtain⟨xs,hxs⟩:∃xs,xs=rows.set i (row.set j (Go.Ax.rawS ad cap)):=⟨_,rfl⟩
  rw[←hxs]at H hlen
  cases H with
  |isl0 a cap=>simp at hlen;omega
  | isl es f hF hl hes hf hc=>
    subst hxs
    have key:=VRel.isl (P:=P) (F:=F) (m:=m) (xs:=rows) es f hF (by rw[←hlen];exact hl) (fun c hc'=>by
        obtain⟨k,hk⟩:=Y3R hc'
        by_cases e:i=k
        · subst e
          rw[hr]at hk;cases hk
          have:=hes (row.set j (Go.Ax.rawS ad cap)) (Y0N (i:=i) (by rw[Y3O hil]))
          rwa [List.length_set]at this
        ·exact hes c (Y0N (i:=k) (by rw[Y3P e];exact hk))) (fun i' j' h1 h2=>hf i' j' (by rwa [hlen]) h2) (fun i' j' c' x hc' hx=>by
        by_cases e:i=i'
        · subst e
          rw[hr]at hc';cases hc'
          by_cases e2:j=j'
          · subst e2
            rw[hj]at hx;cases hx
            exact(hc i j _ (Go.Ax.rawS ad cap) (by rw[Y3O hil]) (by rw[Y3O hjl])).rawS_isl
          ·exact hc i j' _ x (by rw[Y3O hil]) (by rw[Y3P e2];exact hx)
        ·exact hc i' j' c' x (by rw[Y3P e];exact hc') hx)
    rw[←hlen]at key
    exact key
theorem CallsT.opens{ι:Type}{O:AV→Hp→Prop}{f:FuncId}{args:List AV}(args':ι→List AV)(ho:∀(m:Loc) c,LRel P F m args c→∃i,LRel P F m (args' i) c)(H:∀i,CallsT P F h O f (args' i)):CallsT P F h O f args:=fun m w n cargs hr hA hF=>by
 obtain⟨i,hi⟩:=ho m _ hA
 exact H i m w n cargs hr hi hF
theorem TW.weak{c:Code}(hle:HpLe h h')(hnx:h'.nx=h.nx)(hl:∀r o',h'.get r=some o'→o'.live=true→∃o,h.get r=some o∧o.live=true)(hH:∀m w,HRel P F m h w→HRel P F m h' w)(ht:TW P F c n rd l h' ds Q):TW P F c n rd l h ds Q:=fun s hs m a w fe k hr ha hf hF=>by
 have hs':Atk {s with h:=h'} n rd l h' ds:=⟨hs.n,rfl,hs.ds,hs.rd,hs.tm⟩
 have hstep:Step P F m h h' w w m:=⟨Y0h m,fun r c h1 h2=>(by rw[h1]at h2;cases h2),hH m w hr,.refl w,Y0u _,fun _ _ _=>rfl,(by rw[hnx];exact Y0u _),fun r o' c hg hl' hm=>hl r o' hg hl',fun r b z h1 h2=>(by rw[h1]at h2;cases h2),fun b o hb=>.inl hb⟩
 refine wpIn_mono (ht _ hs' m a w fe k (hH m w hr) ⟨ha.tm,ha.ds⟩ hf (fun r h1=>hF r (by rw[←hnx];exact h1))) fun x a' w' hp=> ?_
 exact TPost.after hstep hle hp
theorem HRel.weak{w:World}{r:Nat}{e:TypeId}{cs cs':List AV}(hg:h.get r=some (.cells e cs))(hrn:r<h.nx)(hc:cs'.length=cs.length)(hv:∀(i:Nat) (x y:AV),cs[i]? =some x→cs'[i]? =some y→∀c,VRel P F m x c→VRel P F m y c)(H:HRel P F m h w):HRel P F m (h.put r (.cells e cs')).z w:=by
 have back:∀s o,(h.put r (.cells e cs')).z.get s=some o→o.live=true→∃o',h.get s=some o'∧o'.live=true:=fun s o h1 h2=>by
  rw[q4G,get_put]at h1
  split at h1
  ·rename_i e';subst e';exact⟨_,hg,rfl⟩
  ·exact⟨o,h1,h2⟩
 refine⟨fun s o b z h1 h2=> ?_,fun s t o q b y z h1 h2 h3 h4 h5 h6=> ?_,fun s o b z h1 h2 h3=> ?_,H.frz,fun s hs=> ?_⟩
 ·rw[q4G,get_put]at h1
  split at h1
  ·rename_i e';subst e';cases h1
   obtain⟨arr,a1,a2,a3,a4⟩:=H.obj _ _ b z hg h2
   refine⟨arr,a1,a2,by rw[hc];exact a3,fun i y c hy hc'=> ?_⟩
   have hi:=(Y0m.1 hy).1
   exact hv i _ y (Y0n (by omega)) hy c (a4 i _ c (Y0n (by omega)) hc')
  ·exact H.obj s o b z h1 h2
 ·obtain⟨o1,g1,l1⟩:=back s o h1 h2
  obtain⟨o2,g2,l2⟩:=back t q h3 h4
  exact H.inj s t o1 o2 b y z g1 l1 g2 l2 h5 h6
 ·obtain⟨o1,g1,l1⟩:=back s o h1 h2
  exact H.out s o1 b z g1 l1 h3
 ·have hs':h.nx≤s:=hs
  rw[q4G,get_put,Y0c (by omega)]
  exact H.wf s hs'
theorem TW.weakCells{c:Code}{r:Nat}{e:TypeId}{cs cs':List AV}(hg:h.get r=some (.cells e cs))(hrn:r<h.nx)(hc:cs'.length=cs.length)(hv:∀(m:Loc) (i:Nat) (x y:AV),cs[i]? =some x→cs'[i]? =some y→∀c,VRel P F m x c→VRel P F m y c)(ht:TW P F c n rd l (h.put r (.cells e cs')).z ds Q):TW P F c n rd l h ds Q:=
 TW.weak (h':=(h.put r (.cells e cs')).z) ⟨Y0u _,Y0E _,fun s _ hs=>absurd hs (Y2K _),fun hw s hs=>by
  have hs':h.nx≤s:=hs
  rw[q4G,get_put,Y0c (by omega)];exact hw s hs'⟩ rfl (fun s o h1 h2=>by
  rw[q4G,get_put]at h1
  split at h1
  ·rename_i e';subst e';exact⟨_,hg,rfl⟩
  ·exact⟨o,h1,h2⟩) (fun m w H=>H.weak hg hrn hc (hv m)) ht
theorem TW.weakK{c:Code}{d:Nat}{x y:AV}(hb:Nat.blt d n=true)(hk:kn l d=some x)(hv:∀(m:Loc) c,VRel P F m x c→VRel P F m y c)(ht:TW P F c n rd ((d,y)::l) h ds Q):TW P F c n rd l h ds Q:=fun s hs m a w fe k hr ha hf hF=>by
 have hd:d<n:=Y0J hb
 obtain⟨s1,h1,h2⟩:=hs.put (d:=d) hb y h
 have hx:=hs.tm d x hk
 have he:s1={s with tm:=s.tm.set d y,h:=h}:=by
  unfold putD at h1
  dsimp only at h1
  rw[hs.n,hb]at h1
  cases h1
  rw[hs.n]
 refine ht s1 h2 m a w fe k hr ⟨?_,by rw[he];exact ha.ds⟩ hf hF
 have hsn:s.n=n:=hs.n
 rw[he]
 refine⟨ha.tm.size,fun t ht'=> ?_,fun t ht'=> ?_⟩
 ·by_cases e:t=d
  ·subst e
   show VRel P F m (tget (s.tm.set t y) t) _
   rw[q4o,Y0e rfl]
   exact hv m _ (by have:=ha.tm.at' t ht';rwa [hx]at this)
  ·show VRel P F m (tget (s.tm.set d y) t) _
   rw[q4o,Y0c (fun h=>e h.symm)]
   exact ha.tm.at' t ht'
 ·have ht2:n≤t:=by rw[←hsn];exact ht'
  show tget (s.tm.set d y) t=_
  rw[q4o,Y0c (by omega)]
  exact ha.tm.out t ht'
theorem OpT.isNilR(hP:POk P F gl K){t u ty:TypeId}{x y:Operand}{dd:Option Nat}{pos:String}{aft:Array Edge}{gd:Option (Nat×Bool)}{ti:TI}{e:TypeId}{ad:Option Addr}{cap:Nat}(hx:evK (Ctx.of P gl K) l x=some (rawS ad cap))(hy:evK (Ctx.of P gl K) l y=some .nilsl)(ht:(Ctx.of P gl K).ti t=some ti)(hd:ti.desc= .slice e):
  OpT P F ⟨dd,.binOp .eql t x y u,ty,pos,aft,gd⟩ n rd l h ds (fun v g=>g=h∧v= .bool ad.isNone):=by
 refine⟨nofun,fun s hs m a w hr htm hF=> ?_⟩
 have h1:=q0F hP htm x
 rw[hs.ev hx]at h1
 have h2:=q0F hP htm y
 rw[hs.ev hy]at h2
 have h3:=h1.rawS_inv
 have h4:=h2.nilsl_inv
 have hu:=q0A ht
 rw[hd]at hu
 refine .inl ⟨.bool ad.isNone,h,⟨rfl,rfl⟩,.refl h,.inl (.pureV hr ⟨.bool ad.isNone,?_,.bool _⟩)⟩
 show(do eqGuard .eql t x y (a.eval x) (a.eval y);binOp .eql t (a.eval x) (a.eval y):Sem Value).run P w=_
 rw[h3,h4,Sem.run_bind,q4q (cx:=.slice ad 0 cap) (cy:=.slice none 0 0) w (by rintro⟨h,_⟩;cases h) (by rintro⟨_,_,h,_⟩;cases h)]
 simp only[Result.andThen]
 rw[(z0M (t:=t) (cx:=.slice ad 0 cap) (cy:=.slice none 0 0) (by rintro⟨_,_,_,_,h,_⟩;cases h) (by rintro⟨_,_,h,_⟩;cases h) nofun nofun).1,Sem.run_bind]
 unfold Op.equal
 have h5:∀k,0<k→(Op.equalIn k t (.slice ad 0 cap) (.slice none 0 0)).run P w= .ok ad.isNone w:=fun k hk=>by
  obtain⟨d,rfl⟩:∃d,k=d+1:=⟨k-1,by omega⟩
  cases ad<;>simp[Op.equalIn,run_underlying hu]
 rw[h5 Op.maxDepth (by decide)]
 rfl
theorem TO.isNilR(hP:POk P F gl K){t u ty:TypeId}{x y:Operand}{d:Nat}{pos:String}{aft:Array Edge}{ti:TI}{e:TypeId}{ad:Option Addr}{cap:Nat}(hb:Nat.blt d n=true)(hx:evK (Ctx.of P gl K) l x=some (rawS ad cap))(hy:evK (Ctx.of P gl K) l y=some .nilsl)(ht:(Ctx.of P gl K).ti t=some ti)(hd:ti.desc= .slice e)
  (k:TO P F all rest n rd ((d,.bool ad.isNone)::l) h ds Q):TO P F all (⟨some d,.binOp .eql t x y u,ty,pos,aft,none⟩::rest) n rd l h ds Q:=
 .step rfl rfl hb (.isNilR hP hx hy ht hd) fun v h' ⟨e1,e2⟩=>by subst e1 e2;exact k
theorem Calling.of_pure{v:AV}{f:FuncId}{args:List AV}(hp:PureC P F f args v):Calling P F h h v f args:=by
  refine fun m w n cargs hR hA _=>(hp m w n cargs hR.frz hA).mono fun e w' he=> ?_
  obtain⟨cv,fz,rfl,hs,hz,hold,hfz,hle,hnew,hv⟩:=he
  have hlm:Loc.le m ⟨m,fz⟩:=⟨fun _ _ h=>h,hle⟩
  refine⟨cv,⟨m,fz⟩,rfl,⟨hlm,fun r c h1 h2=> ?_,⟨fun r o b z hg hm=> ?_,hR.inj,fun r o b z hg hl hm=> ?_,fun b o hb=> ?_,hR.wf⟩,hs,hz,fun b hb _=>hold b hb,Y0u _,fun r o' c hg hl _=>⟨o',hg,hl⟩,fun r b z h1 h2 _=> ?_,fun b o hb=>(hnew b o hb).imp_right .inl⟩,VRel.mono (m:=⟨fun _=>none,fz⟩) (m':=⟨m,fz⟩) ⟨fun r c h=>(by cases h),fun _ _ h=>h⟩ hv⟩
  · have h1:m r=some c:=h1
    rw[h2]at h1;cases h1
  · have h1:=hR.obj r o b z hg hm
    by_cases hl:o.live=true
    ·rw[hold b (hR.lt hg hl hm)];exact h1.mono hlm
    ·cases o<;>first|trivial|exact absurd rfl hl
  · obtain ⟨h1, h2⟩:=hR.out r o b z hg hl hm
    refine⟨h1,?_⟩
    show fz b=none
    cases hf:fz b with
    |none=>rfl
    | some x => rcases hnew b x hf with h3|h3
                ·rw[h2]at h3;cases h3
                ·have:=hR.lt hg hl hm;omega
  · rcases hb with hb|hb
    · have h1:Fz F m b o:=.inl hb
      rw[hold b (hR.flt h1)];exact hR.frz b o h1
    ·exact hfz b o hb
  · have h1:m r=some (b,z):=h1
    rw[h2]at h1;cases h1
end Go.Ax
set_option maxRecDepth 20000
noncomputable section
namespace Go.Ax
open Go.Proofs
attribute [local irreducible] TW TO CallsT PureC
variable{F:Nat→Option Obj}{gl:Nat→AV}{K:Knob}{S S':Nat→Prop}
@[simp] theorem noRef_rawS{ad:Option Addr}{cap:Nat}:q3Z (rawS ad cap)=true:=rfl
theorem x7z(hP:POk Tryz.prog F gl K)(cap:Nat):PureC Tryz.prog F q0v [rawS none cap] .nilsl:=by
 refine zP3 q2B ?_
 refine zG ?_
 refine Y2v (Y2v (TW.region ?_))
 refine TO.one hP (v:=rawS none cap) (h1:=_) rfl rfl rfl rfl rfl ?_
 refine TO.isNilR hP rfl rfl rfl (ti:=_) (e:=3) rfl rfl ?_
 refine Y2X hP (by simp<;>rfl) ?_
 dsimp only[goK,q0a]
 repeat' first|refine zR0 ?_|(refine Y2u ⟨.inr rfl,_,_,rfl,rfl,?_⟩;dsimp only[q0q])
theorem x7y(hP:POk Tryz.prog F gl K)(a:Addr)(cap:Nat)(h0:Hp):
  CallsT Tryz.prog F h0 (fun v g=>Wid h0 g∧∃q x,v= .sl q 0 0 0 1 x∧h0.nx≤q∧q<g.nx∧g.get q=some (.cells q0x [])) q0v [rawS (some a) cap]:=by
 refine Y2y hP q0f q2B rfl rfl ?_
 refine zG ?_
 refine Y2v (Y2v (TW.region ?_))
 refine TO.one hP (v:=rawS (some a) cap) (h1:=h0) rfl rfl rfl rfl rfl ?_
 refine TO.isNilR hP rfl rfl rfl (ti:=_) (e:=3) rfl rfl ?_
 refine Y2X hP (by simp<;>rfl) ?_
 dsimp only[goK,q0a]
 refine TW.weakK (d:=0) (x:=rawS (some a) cap) (y:=.isl []) rfl rfl (fun m c h=>h.rawS_isl) ?_
 obtain⟨p,ex,h',q1,q2,q3,q4,q5⟩:=x5w (enc:=cI) (q1a (gl:=gl) (K:=K)) q6S (fun _=>rfl) (fun _=>rfl) [] (by simp) h0
 dsimp only[q0m,q0x]at q1
 rw[List.map_nil]at q1
 repeat' first|refine Y2v ?_|refine Y2s ?_|refine Y2J hP rfl ?_|(refine Y2W hP (by simp[Sl.av,q1]<;>rfl) ?_;dsimp only[goK])|simp only[q0a,q0c,q0d,↓reduceIte,Nat.reduceEqDiff,reduceCtorEq]|(refine Y2u ⟨.inr rfl,_,_,rfl,rfl,?_⟩;dsimp only[q0q])
 exact⟨q2,p,ex,rfl,q3,q4,q5⟩
def EmpO(fl:Bool→Prop)(v:AV)(h:Hp)(S:Nat→Prop):Prop:=∃q x,fl x∧v= .sl q 0 0 0 1 x∧S q∧h.get q=some (.cells q0x [])
theorem EmpO.locl{fl:Bool→Prop}{v:AV}:Locl (EmpO fl v):=fun h g S S' ⟨q,x,h0,h1,h2,h3⟩ hS hg=>⟨q,x,h0,h1,hS q h2,(hg q h2).trans h3⟩
theorem EmpO.rig:RigV (EmpO OffF) (EmpO AnyF):=by
 rintro v1 h1 S1 v2 h2 S2 ⟨r,x,h0,rfl,a3,a4⟩ ⟨r',x',h0',rfl,b3,b4⟩
 have h0:x=false:=h0
 subst h0
 refine⟨fun _=>r',fun s=>s=r,⟨fun s hs=>by rw[hs];exact a3,fun _ _=>b3,fun a b ha hb _=>by rw[ha,hb],fun s hs=>⟨q0x,_,_,by rw[hs];exact a4,b4,.nil⟩⟩,?_⟩
 exact .sl (σ:=fun _=>r') (r:=r) rfl nofun
theorem EmpO.ex:ExV (EmpO OffF):=fun h hw=>
 ⟨_,h.new (.cells q0x []),fun s=>s=h.nx,⟨h.nx,false,rfl,rfl,rfl,by rw[get_new,Y0e rfl]⟩,(Y2M h).new _,wf_new hw,fun s hs=>by rw[hs,nx_new];omega⟩
theorem tell_emp(hP:POk Tryz.prog F gl K)(a:Addr)(cap:Nat)(h:Hp)(hlo:h.lo=h.nx)(hw:∀r,h.nx≤r→h.get r=none):
  ∃v h1 S,EmpO OffF v h1 S∧Wid h h1∧(∀r,h1.nx≤r→h1.get r=none)∧(∀s,S s→h.nx≤s∧s<h1.nx)∧HpLe h h1∧Calling Tryz.prog F h h1 v q0v [rawS (some a) cap]∧h1.lo=h.nx∧h.nx<h1.nx:=
 x4P (B:=fun v=>EmpO AnyF v) ((x7y hP a cap .e).mono fun v g ⟨_,q,x,h1,h2,h3,h4⟩=>⟨fun s=>s=q,q,x,trivial,h1,rfl,h4⟩) rfl EmpO.rig EmpO.ex (fun v=>EmpO.locl) h hlo hw
theorem x5T(hP:POk Tryz.prog F gl K)(t:Sl Int)(hlen:t.list.length≤1000000)(h:Hp)(hlo:h.lo=h.nx)(hw:∀r,h.nx≤r→h.get r=none):
  ∃v h1 S,IntO OffF v t.list h1 S∧Wid h h1∧(∀r,h1.nx≤r→h1.get r=none)∧(∀s,S s→h.nx≤s∧s<h1.nx)∧HpLe h h1∧Calling Tryz.prog F h h1 v q0v [t.av cI]∧h1.lo=h.nx∧h.nx<h1.nx:=
 x4P (B:=fun v=>IntO AnyF v t.list) ((x7A hP t hlen .e).mono fun v g ⟨_,S,_,H⟩=>⟨S,H⟩) (by simp[q2g,q3T (e:=cI) (fun _=>rfl)]) (IntO.rig _) (IntO.ex _) (fun v=>IntO.locl) h hlo hw
def insL(l:List LBlock)(t:Nat):List LIns:=match l[t]? with|some b=>b.ins.list|none=>[]
def KN(l:List LBlock)(i:Nat):List Int:=((List.range i).map fun t=>(insL l t).map z0w).flatten
def PN(l:List LBlock)(i:Nat):List (Int×Int):=((List.range i).map fun t=>(List.range (insL l t).length).map fun j:Nat=>((t:Int),(j:Int))).flatten
theorem x3d{l:List LBlock}{i:Nat}{b:LBlock}(hb:l[i]? =some b):KN l (i+1)=KN l i++b.ins.list.map z0w:=by
 unfold KN
 rw[Y3C]
 simp[insL,hb]
theorem x8A{l:List LBlock}{i:Nat}{b:LBlock}(hb:l[i]? =some b):PN l (i+1)=PN l i++(List.range b.ins.list.length).map fun j:Nat=>((i:Int),(j:Int)):=by
 unfold PN
 rw[Y3C]
 simp[insL,hb]
theorem KN_len{l:List LBlock}(h:∀b∈l,b.ins.list.length≤128):∀i,(KN l i).length≤128*i
  |0=>by simp[KN]
  | i +1=>by
    have:=KN_len h i
    cases hb:l[i]? with
    | none=>
      have:KN l (i+1)=KN l i:=by unfold KN;rw[Y3C];simp[insL,hb]
      rw[this];omega
    | some b=>
      have h2:=h b (Y0N hb)
      rw[x3d hb,Y0X,Y1q];omega
theorem x7X{l:List LBlock}:∀i,(PN l i).length=(KN l i).length
  |0=>rfl
  | i +1=>by
    cases hb:l[i]? with
    | none=>
      have h1:KN l (i+1)=KN l i:=by unfold KN;rw[Y3C];simp[insL,hb]
      have h2:PN l (i+1)=PN l i:=by unfold PN;rw[Y3C];simp[insL,hb]
      rw[h1,h2];exact x7X i
    |some b=>rw[x3d hb,x8A hb,Y0X,Y0X,x7X i];simp
def q7Q(p:LProg)(x:LFunc)(i:Nat):List Int:=q1z p.types.list x.sig++KN x.blocks.list i
def q5c(p:LProg)(x:LFunc)(i:Nat):List (Int×Int):=List.replicate (q1z p.types.list x.sig).length (-1, -1)++PN x.blocks.list i
def cP(q:Int×Int):List AV:=pr q.1 q.2
def fnC(ty fu:AV)(f:Nat)(vk vp rl:AV):List AV:=[ty,fu,.int .i64 f,vk,vp,rl]
structure FnM(b s:Nat)(ty fu:AV)(f:Nat)(rl vk vp:AV)(kl:List Int)(pl:List (Int×Int))(g:Hp):Prop where
 get:g.get s=some (.cells T_fn (fnC ty fu f vk vp rl))
 sn:s<g.nx
 k:OwnZ 1 q0x b g vk (kl.map cI)
 p:OwnZ 2 q0X b g vp (pl.map cP)
 bn:b≤g.nx
 ks:∀q n x,vk= .sl q 0 n n 1 x→q≠s
 ps:∀q n x,vp= .sl q 0 n n 2 x→q≠s
 kp:∀q n x,vk= .sl q 0 n n 1 x→∀m y,vp≠ .sl q 0 m m 2 y
theorem FnM.same{b s:Nat}{ty fu:AV}{f:Nat}{rl vk vp:AV}{kl:List Int}{pl:List (Int×Int)}{g m:Hp}(H:FnM b s ty fu f rl vk vp kl pl g)(hn:g.nx≤m.nx)(hg:∀r,(b≤r∨r=s)→r<g.nx→m.get r=g.get r):FnM b s ty fu f rl vk vp kl pl m:=
 ⟨(hg s (.inr rfl) H.sn).trans H.get,by have:=H.sn;omega,H.k.same hn fun r h1 h2=>hg r (.inl h1) h2,H.p.same hn fun r h1 h2=>hg r (.inl h1) h2,by have:=H.bn;omega,H.ks,H.ps,H.kp⟩
theorem OwnZ.low{es b:Nat}{eT:TypeId}{v:AV}{rows:List (List AV)}{h:Hp}(H:OwnZ es eT b h v rows){q n:Nat}{x:Bool}(e:v= .sl q 0 n n es x):b≤q∧q<h.nx:=by
 rcases H with⟨h1,_⟩|⟨q',x',h1,h2,h3,_⟩
 ·rw[h1]at e;cases e
 ·rw[h3]at e;cases e;exact⟨h1,h2⟩
theorem OwnZ.keep{es b:Nat}{eT:TypeId}{v:AV}{rows:List (List AV)}{h g:Hp}(H:OwnZ es eT b h v rows)(hn:h.nx≤g.nx)(hg:∀q n x,v= .sl q 0 n n es x→g.get q=h.get q):OwnZ es eT b g v rows:=by
 rcases H with h1|⟨q',x',h1,h2,h3,h4⟩
 ·exact .inl h1
 ·exact .inr ⟨q',x',h1,by omega,h3,(hg _ _ _ h3).trans h4⟩
theorem OwnZ.shape{es b:Nat}{eT:TypeId}{v:AV}{rows:List (List AV)}{h:Hp}(H:OwnZ es eT b h v rows):lenA v=some rows.length∧(∀s,v≠ .str s)∧q1f v=true∧cellsOf v=some [v]:=by
 rcases H with⟨rfl,rfl⟩|⟨q',x',h1,h2,rfl,_⟩<;>exact⟨rfl,nofun,rfl,rfl⟩
theorem FnM.pushP{b s:Nat}{ty fu:AV}{f:Nat}{rl vk vp:AV}{kl:List Int}{pl:List (Int×Int)}{g:Hp}(H:FnM b s ty fu f rl vk vp kl pl g)(hb:b≤g.nx)(hl:pl.length<1000000)(i j:Int):
  ∃v h',q0Z (Ctx.of Tryz.prog gl K) q0Y q0Y vp (.sl g.nx 0 1 1 2 true) (g.new (.cells q0X [.int .i64 i,.int .i64 j]))=some (v,h')∧q1f v=true∧h'.get s=some (.cells T_fn (fnC ty fu f vk vp rl))∧h'.nx=g.nx+2∧(∀r,r<g.nx→(∀n x,vp≠ .sl r 0 n n 2 x)→h'.get r=g.get r)∧
   FnM b s ty fu f rl vk v kl (pl++[(i,j)]) (h'.put s (.cells T_fn (fnC ty fu f vk v rl))):=by
 obtain⟨q,h',q1,q2,q3,q4,q5⟩:=H.p.push (t:=q0Y) (row:=pr i j) (q3C (gl:=gl) (K:=K)) (fun c hc=>by obtain⟨a,_,rfl⟩:=Y2S.1 hc;rfl) rfl rfl (by simp;omega) hb
 have hsn:=H.sn
 have q5':∀r,r<g.nx→(∀n x,vp≠ .sl r 0 n n 2 x)→h'.get r=g.get r:=q5
 have hs:h'.get s=_:=(q5 s H.sn fun n x e=>H.ps s n x e rfl).trans H.get
 refine⟨_,h',q1,rfl,hs,q4,q5',⟨by rw[get_put,Y0e rfl],by show s<h'.nx;omega,?_,?_,by show b≤h'.nx;omega,H.ks,fun q' n x e=> ?_,fun q' n x e m y e'=> ?_⟩⟩
 ·refine H.k.keep (by show g.nx≤h'.nx;omega) fun r n x e=> ?_
  have h1:=H.ks r n x e
  rw[get_put,Y0c (fun e=>h1 e.symm),q5 r (H.k.low e).2 fun m y e'=>H.kp r n x e m y e']
 ·refine .inr ⟨q,false,by omega,by show q<h'.nx;omega,by simp,?_⟩
  rw[get_put,Y0c (by omega),q3]
  simp[cP,pr]
 ·cases e;omega
 ·cases e'
  have:=(H.k.low e).2;omega
theorem FnM.pushK{b s:Nat}{ty fu:AV}{f:Nat}{rl vk vp:AV}{kl:List Int}{pl:List (Int×Int)}{g:Hp}(H:FnM b s ty fu f rl vk vp kl pl g)(hb:b≤g.nx)(hl:kl.length<1000000)(i:Int):
  ∃v h',q0Z (Ctx.of Tryz.prog gl K) q0m q0m vk (.sl g.nx 0 1 1 1 true) (g.new (.cells q0x [.int .i64 i]))=some (v,h')∧q1f v=true∧h'.get s=some (.cells T_fn (fnC ty fu f vk vp rl))∧h'.nx=g.nx+2∧(∀r,r<g.nx→(∀n x,vk≠ .sl r 0 n n 1 x)→h'.get r=g.get r)∧
   FnM b s ty fu f rl v vp (kl++[i]) pl (h'.put s (.cells T_fn (fnC ty fu f v vp rl))):=by
 obtain⟨q,h',q1,q2,q3,q4,q5⟩:=H.k.push (t:=q0m) (row:=[.int .i64 i]) (q1a (gl:=gl) (K:=K)) q1v rfl rfl (by simp;omega) hb
 have hsn:=H.sn
 have q5':∀r,r<g.nx→(∀n x,vk≠ .sl r 0 n n 1 x)→h'.get r=g.get r:=q5
 have hs:h'.get s=_:=(q5 s H.sn fun n x e=>H.ks s n x e rfl).trans H.get
 refine⟨_,h',q1,rfl,hs,q4,q5',⟨by rw[get_put,Y0e rfl],by show s<h'.nx;omega,?_,?_,by show b≤h'.nx;omega,fun q' n x e=> ?_,H.ps,fun q' n x e m y e'=> ?_⟩⟩
 ·refine .inr ⟨q,false,by omega,by show q<h'.nx;omega,by simp,?_⟩
  rw[get_put,Y0c (by omega),q3]
  simp
 ·refine H.p.keep (by show g.nx≤h'.nx;omega) fun r n x e=> ?_
  have h1:=H.ps r n x e
  rw[get_put,Y0c (fun e=>h1 e.symm),q5 r (H.p.low e).2 fun m y e'=>H.kp r m y e' n x e]
 ·cases e;omega
 ·cases e
  have:=(H.p.low e').2;omega
theorem FnM.upd{b s:Nat}{ty fu:AV}{f:Nat}{rl vk vp:AV}{kl:List Int}{pl:List (Int×Int)}{g:Hp}(hs:s<g.nx)(hb:b≤g.nx)(hk:OwnZ 1 q0x b g vk (kl.map cI))(hp:OwnZ 2 q0X b g vp (pl.map cP))(ks:∀q n x,vk= .sl q 0 n n 1 x→q≠s)(ps:∀q n x,vp= .sl q 0 n n 2 x→q≠s)(kp:∀q n x,vk= .sl q 0 n n 1 x→∀m y,vp≠ .sl q 0 m m 2 y):
  FnM b s ty fu f rl vk vp kl pl (g.put s (.cells T_fn (fnC ty fu f vk vp rl))):=
 ⟨by rw[get_put,Y0e rfl],hs,hk.keep (Y0u _) fun q n x e=>by rw[get_put,Y0c fun e'=>ks q n x e e'.symm],hp.keep (Y0u _) fun q n x e=>by rw[get_put,Y0c fun e'=>ps q n x e e'.symm],hb,ks,ps,kp⟩
theorem x7r(hP:POk Tryz.prog F gl K)(hX:∀f a,K.ext f a=none){h0:Hp}{r k:Nat}(hk:k≤4)(hr:h0.get r=some (.cells q0X q3S))(hrn:r<h0.nx):
  CallsT Tryz.prog F h0 (fun v g=>v= .sl h0.nx 0 k k 2 true∧h0.nx<g.nx∧g.get h0.nx=some (.cells q0X (repC k k))∧Wid h0 g) q0H [.sl r 0 1 1 2 true,.int .i64 k]:=by
 obtain rfl|rfl|rfl|rfl|rfl:k=0∨k=1∨k=2∨k=3∨k=4:=by omega
 ·exact Repeat_0 hP hX hr hrn
 ·exact Repeat_1 hP hX hr hrn
 ·exact Repeat_2 hP hX hr hrn
 ·exact Repeat_3 hP hX hr hrn
 ·exact Repeat_4 hP hX hr hrn
theorem wfUp{g:Hp}(hw:∀r,g.nx≤r→g.get r=none):∀r,g.up.nx≤r→g.up.get r=none:=fun r hr=>by
 rw[q4z]
 rw[z3o]at hr
 exact hw r hr
theorem widUp{g h:Hp}(hw:Wid g.up h):Wid g h:=⟨by have:=hw.nx;rwa [z3o]at this,fun r hr=>by have:=hw.get r (by rw[z3o];exact hr);rwa [q4z]at this⟩
theorem primP{f:FuncId}{args:List AV}{h h1:Hp}{v:AV}:(Ctx.of Tryz.prog gl ((K.tellP f args h v h1).tell [])).prim f args h=some (v,h1):=z8z
theorem orcP{f:FuncId}{args:List AV}{h h1:Hp}{v:AV}:(Ctx.of Tryz.prog gl ((K.tellP f args h v h1).tell [])).orc f args=none:=x0I (K:=K) (f:=f) (args:=args) (h:=h) (h1:=h1) (v:=v)
theorem repC_self(k:Nat):repC k k=((List.replicate k ((-1:Int),(-1:Int))).map cP).flatten:=by
 unfold repC
 rw[Y1s,List.map_replicate]
 simp[cP,q3S]
structure Told(F:Nat→Option Obj)(h k:Hp)(pv v:AV)(l:List Int):Prop where
 own:OwnZ 1 q0x h.nx k v (l.map cI)
 wid:Wid h k
 wf:∀r,k.nx≤r→k.get r=none
 hple:HpLe h k
 calling:Calling Tryz.prog F h k v q0v [pv]
 lo:k.lo=h.nx
theorem x4O(hP:POk Tryz.prog F gl K){h:Hp}(hlo:h.lo=h.nx)(hw:∀r,h.nx≤r→h.get r=none){pv:AV}(hp:PureC Tryz.prog F q0v [pv] .nilsl):Told F h h pv .nilsl []:=
 ⟨.inl ⟨rfl,rfl⟩,.refl h,hw,.refl h,.of_pure hp,hlo⟩
@[simp] theorem noRef_nilsl:q3Z .nilsl=true:=rfl
theorem Clone_nil(hP:POk Tryz.prog F gl K):PureC Tryz.prog F q0v [.nilsl] .nilsl:=by
 have hnil:q0B (Ctx.of Tryz.prog gl K) .eql q0m .nilsl .nilsl=some (.bool true):=by kernel_rfl
 dsimp only[q0m]at hnil
 refine zP3 q2B ?_
 repeat' first|refine Y2v ?_|refine Y2I hP rfl ?_|(refine Y2W hP (by simp[Sl.av,hnil]<;>rfl) ?_;dsimp only[goK])|simp only[q0a,q0c,q0d,↓reduceIte,Nat.reduceEqDiff,reduceCtorEq]|(refine Y2u ⟨.inr rfl,_,_,rfl,rfl,?_⟩;dsimp only[q0q])
theorem told_emp(hP:POk Tryz.prog F gl K)(a:Addr)(cap:Nat){h:Hp}(hlo:h.lo=h.nx)(hw:∀r,h.nx≤r→h.get r=none):∃v k,Told F h k (rawS (some a) cap) v []:=by
 obtain⟨v,k,S,⟨q,x,h0,rfl,h2,h3⟩,a2,a3,a4,a5,a6,a7,a8⟩:=tell_emp hP a cap h hlo hw
 exact⟨_,k,.inr ⟨q,x,(a4 q h2).1,(a4 q h2).2,rfl,h3⟩,a2,a3,a5,a6,a7⟩
theorem told_ints(hP:POk Tryz.prog F gl K){a:Int}{l:List Int}(hlen:(a::l).length≤1000000){h:Hp}(hlo:h.lo=h.nx)(hw:∀r,h.nx≤r→h.get r=none):∃v k,Told F h k ((Sl.mk (a::l)).av cI) v (a::l):=by
 obtain⟨v,k,S,a1,a2,a3,a4,a5,a6,a7,a8⟩:=x5T hP (.mk (a::l)) hlen h hlo hw
 rcases a1 with⟨e,_⟩|⟨r,x,h0,h1,rfl,h3,h4⟩
 ·cases e
 ·exact⟨_,k,.inr ⟨r,x,(a4 r h3).1,(a4 r h3).2,by simp[Sl.list],by rw[h4,z9g];rfl⟩,a2,a3,a5,a6,a7⟩
end Go.Ax
