import Derived.Test.YtdfjkochhifpmaaGreatDoorV07
set_option linter.unusedSimpArgs false
set_option linter.unusedVariables false
noncomputable section
namespace Go.Ax
structure Wid(h g:Hp):Prop where
 nx:h.nx≤g.nx
 get:∀r,r<h.nx→g.get r=h.get r
theorem Wid.refl(h:Hp):Wid h h:=⟨Y0u _,fun _ _=>rfl⟩
abbrev Y2M:=@Wid.refl
theorem Wid.trans{a b c:Hp}(h:Wid a b)(k:Wid b c):Wid a c:=⟨Y0C h.nx k.nx,fun r hr=>(k.get r (Y0D hr h.nx)).trans (h.get r hr)⟩
theorem Wid.new{h g:Hp}(k:Wid h g)(o:AObj):Wid h (g.new o):=⟨Y0C k.nx (Y0A _),fun r hr=>by rw[Y0x,Y0c (by have:=k.nx;omega)];exact k.get r hr⟩
theorem Wid.put{h g:Hp}(k:Wid h g){r:Nat}(hr:h.nx≤r)(o:AObj):Wid h (g.put r o):=⟨k.nx,fun s hs=>by rw[Y0y,Y0c (by omega)];exact k.get s hs⟩
theorem Wid.z{h g:Hp}(k:Wid h g):Wid h g.z:=⟨k.nx,k.get⟩
theorem Wid.at{h g:Hp}(k:Wid h g){r:Nat}{o:AObj}(hg:h.get r=some o)(hr:r<h.nx):g.get r=some o:=(k.get r hr).trans hg
variable{P:Program}{F:Nat→Option Obj}{gl:Nat→AV}{K:Knob}{C:Ctx}{n:Nat}{rd:Option Nat}{l l':Kn}{h h1:Hp}{ds:List ADef}{s:St}{Q Q':PQ}{all rest:List Oper}
abbrev Qt(P:Program)(F:Nat→Option Obj)(h:Hp)(v:AV)(f:FuncId)(args:List AV):Prop:=CallsT P F h (fun u g=>u=v∧Wid h g) f args
theorem TO.qcall(hP:POk P F gl K){g:FuncId}{x:Operand}{aas:Array Operand}{ts:Array TypeId}{d:Nat}{ty:TypeId}{pos:String}{aft:Array Edge}{gd:Option (Nat×Bool)}{first cap vs args:List AV}{v:AV}
  (hf:IsFn P g) (hc:Qt P F h v g args) (hw:q6M all l ⟨some d,.call {callee:=.value x,args:=aas,argTypes:=ts},ty,pos,aft,gd⟩=some true) (hb:Nat.blt d n=true)
  (hx:evK (Ctx.of P gl K) l x=some (.fn (.func g) first cap)) (ha:evsK (Ctx.of P gl K) l aas.toList=some vs) (he:first++vs++cap=args)
  (k:∀h',Wid h h'→TO P F all rest n rd ((d,v)::l) h' ds Q):TO P F all (⟨some d,.call {callee:=.value x,args:=aas,argTypes:=ts},ty,pos,aft,gd⟩::rest) n rd l h ds Q:=
 .ucall hP hw hb hx ha hf (by rw[he];exact hc) fun _ h' e=>by obtain⟨rfl,hw⟩:=e;exact k h' hw
abbrev Y2N:=@TO.qcall
theorem TO.scall(hP:POk P F gl K){g:FuncId}{x:Operand}{aas:Array Operand}{ts:Array TypeId}{d:Nat}{ty:TypeId}{pos:String}{aft:Array Edge}{gd:Option (Nat×Bool)}{first cap vs args:List AV}{v:AV}
  (hf:IsFn P g) (hc:PureC P F g args v) (hw:q6M all l ⟨some d,.call {callee:=.value x,args:=aas,argTypes:=ts},ty,pos,aft,gd⟩=some true) (hb:Nat.blt d n=true)
  (hx:evK (Ctx.of P gl K) l x=some (.fn (.func g) first cap)) (ha:evsK (Ctx.of P gl K) l aas.toList=some vs) (he:first++vs++cap=args)
  (k:TO P F all rest n rd ((d,v)::l) h ds Q):TO P F all (⟨some d,.call {callee:=.value x,args:=aas,argTypes:=ts},ty,pos,aft,gd⟩::rest) n rd l h ds Q:=
 .ucall hP hw hb hx ha hf (by rw[he];exact .of_pure hc) fun _ h' e=>by obtain⟨rfl,rfl⟩:=e;exact k
abbrev Y2O:=@TO.scall
end Go.Ax
noncomputable section
namespace Go.Ax
variable{C:Ctx}{h:Hp}
structure WidB(b:Nat)(h g:Hp):Prop where
 nx:h.nx≤g.nx
 get:∀r,r<b→g.get r=h.get r
theorem WidB.refl(b:Nat)(h:Hp):WidB b h h:=⟨Y0u _,fun _ _=>rfl⟩
theorem WidB.trans{b:Nat}{x y z:Hp}(h:WidB b x y)(k:WidB b y z):WidB b x z:=⟨Y0C h.nx k.nx,fun r hr=>(k.get r hr).trans (h.get r hr)⟩
theorem WidB.new{b:Nat}{h g:Hp}(k:WidB b h g)(hb:b≤g.nx)(o:AObj):WidB b h (g.new o):=⟨Y0C k.nx (Y0A _),fun r hr=>by rw[Y0x,Y0c (by omega)];exact k.get r hr⟩
theorem WidB.put{b:Nat}{h g:Hp}(k:WidB b h g){r:Nat}(hr:b≤r)(o:AObj):WidB b h (g.put r o):=⟨k.nx,fun s hs=>by rw[Y0y,Y0c (by omega)];exact k.get s hs⟩
def Own(es:Nat)(eT:TypeId)(b:Nat)(h:Hp)(v:AV)(rows:List (List AV)):Prop:=
 (v= .nilsl∧rows= [])∨(rows≠ []∧∃r,b≤r∧r<h.nx∧v= .sl r 0 rows.length rows.length es false∧h.get r=some (.cells eT rows.flatten))
theorem Own.nil{es:Nat}{eT:TypeId}{b:Nat}{h:Hp}:Own es eT b h .nilsl []:=.inl ⟨rfl,rfl⟩
theorem Own.wid{es:Nat}{eT:TypeId}{b:Nat}{h g:Hp}{v:AV}{rows:List (List AV)}(ho:Own es eT b h v rows)(hw:Wid h g):Own es eT b g v rows:=by
 rcases ho with h1|⟨h1,r,h2,h3,h4,h5⟩
 ·exact .inl h1
 ·exact .inr ⟨h1,r,h2,by have:=hw.nx;omega,h4,hw.at h5 h3⟩
theorem q5K{es:Nat}:∀{rows:List (List AV)},(∀c∈rows,c.length=es)→rows.flatten.length=rows.length*es
  |[],_=>by simp
  | c::r,h=>by
    rw[Y2P,Y0X,h c Y0T,q5K fun x hx=>h x (Y0U _ hx),Y2i,Y1u,Nat.one_mul,Nat.add_comm]
def slT(C:Ctx)(t eT:TypeId)(es:Nat):Bool:=
 match C.ti t,C.ti eT with
 |some {desc:=.slice e,.. },some y=>decide (e=eT)&&(decide (y.size=es)&&(y.zeroOk&&decide (y.bytes≤1000000)))
 |_,_=>false
theorem Own.push {es:Nat} {t eT:TypeId} {b:Nat} {v:AV} {rows:List (List AV)} {row:List AV} (ht:slT C t eT es=true) (ho:Own es eT b h v rows) (hrows:∀c∈rows,c.length=es) (hrow:row.length=es) (hcell:row.all q1f=true) (hlen:rows.length<1000000) (hb:b≤h.nx):
    ∃v' h',q0Z C t t v (.sl h.nx 0 1 1 es true) (h.new (.cells eT row))=some (v',h')∧Own es eT b h' v' (rows++[row])∧WidB b h h'∧h'.nx=h.nx+2:=by
  unfold slT at ht
  split at ht
  case h_2=>cases ht
  rename_i e size isAgg zero zeroOk bytes comparable zv y hti hy
  simp only[Y1X,Y2h]at ht
  obtain⟨rfl,hys,hz,hby⟩:=ht
  have hsrc:q0N (h.new (.cells e row)) y.size 1 (.sl h.nx 0 1 1 es true)=some row:=by
    unfold q0N
    simp[get_new,sub,hys,←hrow]
  have key : ∀ s, q0Z C t t s (.sl h.nx 0 1 1 es true) (h.new (.cells e row))=(match s with
        | .nilsl=>some (.sl (h.nx+1) 0 1 1 y.size false,(h.new (.cells e row)).new (.cells e row))
        | .sl r o len cap es' ex=>
          (match (h.new (.cells e row)).get r with
           | some (.cells e' cs)=>
             bif Nat.beq es' y.size&&(Nat.ble (Nat.add o (Nat.mul len es')) cs.length&&Nat.ble (Nat.add len 1) 1000000)then
               bif Nat.ble (Nat.add len 1) cap then
                 (bif Nat.ble (Nat.add (Nat.add o (Nat.mul len es')) row.length) cs.length then
                   some (.sl r o (Nat.add len 1) cap es' ex,(h.new (.cells e row)).put r (.cells e' (q1h cs (Nat.add o (Nat.mul len es')) row)))else none)
               else bif ex then some (.sl (h.nx+1) 0 (Nat.add len 1) (Nat.add len 1) es' false,(h.new (.cells e row)).new (.cells e ((cs.drop o).take (Nat.mul len es')++row)))
               else bif Nat.beq o 0&&Nat.ble (Nat.mul len es') cs.length then
                 (bif Nat.beq e e' then some (.sl (h.nx+1) 0 (Nat.add len 1) (Nat.add len 1) es' false,((h.new (.cells e row)).put r .dead).new (.cells e' (cs.take (Nat.mul len es')++row)))else none)
               else none
             else none
           |_=>none)
        |_=>none):=fun s=>by
    unfold q0Z
    simp only[hti,hy,lenA,z2r,hsrc,hcell,hz]
    have h1:Nat.ble y.bytes 1000000=true:=Y1x hby
    have h2:Nat.beq row.length (Nat.mul 1 y.size)=true:=by rw[hrow,hys,Nat.mul_eq,Nat.one_mul,Y1o]
    rw[h1,h2]
    cases s<;>rfl
  rcases ho with⟨rfl,rfl⟩|⟨hne,r,hbr,hrn,rfl,hg⟩
  · refine⟨_,_,key _,.inr ⟨by simp,h.nx+1,by omega,Y0B _,?_,?_⟩,(WidB.refl b h).new hb _|>.new (by show b≤h.nx+1;omega) _,rfl⟩
    ·simp[hys]
    ·simp[get_new,nx_new]
  · have hg':(h.new (.cells e row)).get r=some (.cells e rows.flatten):=by rw[get_new,Y0c (by omega)];exact hg
    have hfl:=q5K hrows
    refine⟨.sl (h.nx+1) 0 (rows.length+1) (rows.length+1) es false,((h.new (.cells e row)).put r .dead).new (.cells e (rows.flatten++row)),?_,.inr ⟨by simp,h.nx+1,by omega,Y0B _,?_,?_⟩,?_,rfl⟩
    · rw[key]
      dsimp only
      rw[hg']
      have e1:Nat.beq es y.size=true:=by rw[hys,Y1o]
      have e2:Nat.ble (Nat.add 0 (Nat.mul rows.length es)) rows.flatten.length=true:=Y1x (by rw[hfl];simp)
      have e3:Nat.ble (Nat.add rows.length 1) 1000000=true:=Y1x (by simp;omega)
      have e4:Nat.ble (Nat.add rows.length 1) rows.length=false:=by
        cases hc:Nat.ble (Nat.add rows.length 1) rows.length with
        |false=>rfl
        |true=>have:=Y0J hc;simp at this;omega
      have e5:Nat.ble (Nat.mul rows.length es) rows.flatten.length=true:=Y1x (by rw[hfl];exact Y0u _)
      dsimp only
      rw[e1,e2,e3,e4,e5,Y1o,Y1o]
      have e6:rows.flatten.take (Nat.mul rows.length es)=rows.flatten:=Y2Q (by rw[hfl];exact Y0u _)
      rw[e6]
      rfl
    ·simp
    ·simp[get_new,nx_new,nx_put]
    ·exact(((WidB.refl b h).new hb _).put hbr _).new (by show b≤h.nx+1;omega) _
theorem a_append{P:Program}{ih:Code→St→Res}{s:St}{dd:Option Nat}{x y:Operand}{t u:TypeId}{ts:List TypeId}{ty:TypeId}{pos:String}{aft:Array Edge}{gd:Option (Nat×Bool)}:
  opA P C ih s ⟨dd,.call {callee:=.builtin .append,args:= #[x,y],argTypes:=⟨t::u::ts⟩},ty,pos,aft,gd⟩=(q0Z C t u (s.ev C x) (s.ev C y) s.h).map fun r=>.val r.1 r.2:=by
 show(match q0Z C t u (s.ev C x) (s.ev C y) s.h with|some (v,h')=>some (OpR.val v h')|none=>none)=_
 cases q0Z C t u (s.ev C x) (s.ev C y) s.h<;>rfl
theorem x2l{P:Program}{ih:Code→St→Res}{s:St}{dd:Option Nat}{t:TypeId}{k:Nat}{ps:Array (Nat×Operand)}{ty:TypeId}{pos:String}{aft:Array Edge}{gd:Option (Nat×Bool)}:
  opA P C ih s ⟨dd,.buildSlice t k ps,ty,pos,aft,gd⟩=(buildSlice C t k (ps.toList.map fun p=>(p.1,s.ev C p.2)) s.h).map fun r=>.val r.1 r.2:=by
 show ov _ (buildSlice C t k (ps.toList.map fun p=>(p.1,s.ev C p.2)) s.h)=_
 cases buildSlice C t k (ps.toList.map fun p=>(p.1,s.ev C p.2)) s.h<;>rfl
theorem a_build{P:Program}{ih:Code→St→Res}{s:St}{dd:Option Nat}{t:TypeId}{ps:Array (Nat×Operand)}{ty:TypeId}{pos:String}{aft:Array Edge}{gd:Option (Nat×Bool)}:
  opA P C ih s ⟨dd,.build t ps,ty,pos,aft,gd⟩=(build C t (ps.toList.map fun p=>(p.1,s.ev C p.2))).map fun v=>.val v s.h:=by
 show ov _ (build C t (ps.toList.map fun p=>(p.1,s.ev C p.2)))=_
 cases build C t (ps.toList.map fun p=>(p.1,s.ev C p.2))<;>rfl
theorem z0N(z:List AV):∀k,zeroCells k z=(List.replicate k z).flatten
  |0=>rfl
  | k+1=>by
    show z++zeroCells k z=_
    rw[z0N z k,List.replicate_succ,Y2P]
attribute [simp] a_append x2l a_build buildSlice build z7S z0N
def RdI(h:Hp)(v:AV)(xs:List Int):Prop:=
 (v= .nilsl∧xs= [])∨v= .isl (xs.map fun n=>[.int .i64 n])∨
  ∃r o cap ex e cs,v= .sl r o xs.length cap 1 ex∧r<h.nx∧h.get r=some (.cells e cs)∧o+xs.length≤cs.length∧∀i (hi:i<xs.length),cs[o+i]? =some (.int .i64 xs[i])
theorem RdI.wid{g:Hp}{v:AV}{xs:List Int}(hr:RdI h v xs)(hw:Wid h g):RdI g v xs:=by
 rcases hr with h1|h1|⟨r,o,cap,ex,e,cs,h1,h2,h3,h5,h4⟩
 ·exact .inl h1
 ·exact .inr (.inl h1)
 ·exact .inr (.inr ⟨r,o,cap,ex,e,cs,h1,by have:=hw.nx;omega,hw.at h3 h2,h5,h4⟩)
theorem RdI.len{v:AV}{xs:List Int}(hr:RdI h v xs):lenA v=some xs.length∧∀s,v≠ .str s:=by
 rcases hr with⟨rfl,rfl⟩|rfl|⟨r,o,cap,ex,e,cs,rfl,_⟩
 ·exact⟨rfl,nofun⟩
 ·exact⟨by simp[lenA],nofun⟩
 ·exact⟨rfl,nofun⟩
theorem RdI.lenOf{v:AV}{xs:List Int}{t eT:TypeId}{es:Nat}(hr:RdI h v xs)(ht:slT C t eT es=true)(g:Hp):q2S C t v g=some (.int .i64 xs.length):=by
 unfold slT at ht
 split at ht
 case h_2=>cases ht
 rename_i e size isAgg zero zeroOk bytes comparable zv y hti hy
 unfold q2S
 rw[hti]
 obtain⟨h1,h2⟩:=hr.len
 cases v<;>first|exact absurd rfl (h2 _)|(dsimp only;rw[h1];rfl)|(simp[lenA]at h1)
theorem RdI.at'{v:AV}{xs:List Int}{t eT:TypeId}(hr:RdI h v xs)(ht:slT C t eT 1=true)(hs:(match C.ti eT with|some y=>y.isAgg|none=>true)=false){q:IntKind}{i:Nat}(hi:i<xs.length):
  ∃p,indexAt C t v (.int q i)=some p∧∀g,Wid h g→loadAt C eT p g=some (.int .i64 xs[i]):=by
 unfold slT at ht
 split at ht
 case h_2=>cases ht
 rename_i e size isAgg zero zeroOk bytes comparable zv y hti hy
 simp only[Y1X,Y2h]at ht
 obtain⟨rfl,hys,hz,hby⟩:=ht
 rw[hy]at hs
 dsimp only at hs
 rcases hr with⟨rfl,rfl⟩|rfl|⟨r,o,cap,ex,e',cs,rfl,h2,h3,h5,h4⟩
 ·simp at hi
 ·refine⟨.iptr (xs.map fun n=>[.int .i64 n]) i 0,?_,fun g _=> ?_⟩
  ·unfold indexAt
   simp only[hti,z4O,hy,Y0R,Y0n hi,Option.map_some,Y2i,Y2j,hys]
   rfl
  ·unfold loadAt
   simp only[hy,Y0R,Y0n hi,Option.map_some,q2r,hs]
   rfl
 ·refine⟨.ptr r (o+i*1),?_,fun g hw=> ?_⟩
  ·unfold indexAt
   simp only[hti,z4O,hy,hys,Y1o]
   have:Nat.blt i xs.length=true:=Y1x hi
   rw[this];rfl
  ·unfold loadAt
   simp only[hy,hw.at h3 h2,q2r,hs,Y2R]
   exact h4 i hi
theorem Own.rdI{eT:TypeId}{b:Nat}{v:AV}{xs:List Int}(ho:Own 1 eT b h v (xs.map fun n=>[.int .i64 n])):RdI h v xs:=by
 rcases ho with⟨rfl,h1⟩|⟨hne,r,hb,hn,rfl,hg⟩
 ·exact .inl ⟨rfl,by simpa using h1⟩
 ·have:(xs.map fun n=>[AV.int .i64 n]).flatten=xs.map fun n=>AV.int .i64 n:=by
   clear hne hn hg
   induction xs with
   |nil=>rfl
   |cons a l ih=>simp[ih]
  rw[this]at hg
  refine .inr (.inr ⟨r,0,xs.length,false,eT,_,by simp,hn,hg,by simp,fun i hi=> ?_⟩)
  simp[hi]
theorem Own.frz{es:Nat}{eT:TypeId}{b:Nat}{v:AV}{rows:List (List AV)}{rows':List (List AV)}{k:Nat}(ho:Own es eT b h v rows)(hrows:∀c∈rows,c.length=es)(hf:mapO (mapO (frzV k h)) rows=some rows'):
    frzV (k+1) h v=some (match rows' with|[]=>.nilsl|l=>.isl l):=by
  have len:∀{α β:Type} {f:α→Option β} {l:List α} {l':List β},mapO f l=some l'→l'.length=l.length:=fun{α β f}=>by
    intro l
    induction l with
    |nil=>intro l' h;cases h;rfl
    | cons a l ih=>
      intro l' h
      unfold mapO at h
      split at h
      case h_2=>cases h
      split at h
      case h_2=>cases h
      rename_i k hk
      cases h
      simp[ih hk]
  rcases ho with⟨rfl,rfl⟩|⟨hne,r,hb,hn,rfl,hg⟩
  ·cases hf;rfl
  · have hfl:=q5K hrows
    have hch:∀(rows:List (List AV)),(∀c∈rows,c.length=es)→chunks es rows.length rows.flatten=rows:=by
      intro rows
      induction rows with
      |nil=>intro _;rfl
      | cons c l ih=>
        intro hc
        have h1:=hc c Y0T
        show((c++l.flatten).take es)::chunks es l.length ((c++l.flatten).drop es)=_
        rw[List.take_left' h1,List.drop_left' h1,ih fun x hx=>hc x (Y0U _ hx)]
    have h1:=len hf
    have h2:rows'≠ []:=fun e=>hne (Y1y (by rw[←h1,e];rfl))
    unfold frzV
    simp only[hg,Y1Q,hch rows hrows,hf]
    have h3:Nat.ble (Nat.add 0 (Nat.mul rows.length es)) rows.flatten.length=true:=Y1x (by rw[hfl];simp)
    rw[h3]
    cases rows' with
    |nil=>exact absurd rfl h2
    |cons _ _=>rfl
theorem RdI.src{v:AV}{xs:List Int}(hr:RdI h v xs):q0N h 1 xs.length v=some (xs.map (.int .i64)):=by
 rcases hr with⟨rfl,rfl⟩|rfl|⟨r,o,cap,ex,e,cs,rfl,h2,h3,h5,h4⟩
 ·rfl
 ·unfold q0N
  dsimp only
  have h1:(xs.map fun n=>[AV.int .i64 n]).all (fun c=>Nat.beq c.length 1)=true:=by rw[Y0G];intro c hc;obtain⟨n,_,rfl⟩:=Y2S.1 hc;rfl
  have h2:Nat.ble xs.length (xs.map fun n=>[AV.int .i64 n]).length=true:=Y1x (by simp)
  rw[h1,h2]
  have h3:((xs.map fun n=>[AV.int .i64 n]).take xs.length).flatten=xs.map fun n=>AV.int .i64 n:=by
   rw[Y2Q (by simp)]
   clear h1 h2
   induction xs with
   |nil=>rfl
   |cons a l ih=>simp[ih]
  simp only[Bool.and_self,Y0V,h3]
 ·unfold q0N
  dsimp only
  rw[Y1x (Y0u _),Y1o]
  simp only[Bool.and_self,Y0V,h3]
  unfold sub
  rw[Y1x (show Nat.add o (Nat.mul xs.length 1)≤cs.length by simpa using h5),Y0V,Nat.mul_eq,Y2R]
  congr 1
  apply Y2T
  intro i
  by_cases hi:i<xs.length
  ·rw[List.getElem?_take_of_lt hi,Y0l,h4 i hi,Y0R,Y0n hi];rfl
  ·rw[List.getElem?_take_eq_none (by omega),Y1V (by simp;omega)]
theorem x8x{t eT:TypeId}(ht:slT C t eT 1=true){q:Nat}{x:Int}{v:AV}{xs:List Int}(hq:h.get q=some (.cells eT [.int .i64 x]))(hqn:q<h.nx)(hr:RdI h v xs)(hlen:xs.length<999999):
    ∃v' h',q0Z C t t (.sl q 0 1 1 1 true) v h=some (v',h')∧RdI h' v' (x::xs)∧(∀r,r<h.nx→h'.get r=h.get r)∧h.nx≤h'.nx:=by
  have hl:=hr.len.1
  have hsrc:=hr.src
  unfold slT at ht
  split at ht
  case h_2=>cases ht
  rename_i e size isAgg zero zeroOk bytes comparable zv y hti hy
  simp only[Y1X,Y2h]at ht
  obtain⟨rfl,hys,hz,hby⟩:=ht
  have hcell:(xs.map (AV.int .i64)).all q1f=true:=by rw[Y0G];intro c hc;obtain⟨n,_,rfl⟩:=Y2S.1 hc;rfl
  have h1:Nat.ble y.bytes 1000000=true:=Y1x hby
  have h2:Nat.beq (xs.map (AV.int .i64)).length (Nat.mul xs.length y.size)=true:=by rw[hys,Nat.mul_eq,Y2R,Y1q,Y1o]
  have e1:Nat.beq 1 y.size=true:=by rw[hys];rfl
  have e3:Nat.ble (Nat.add 1 xs.length) 1000000=true:=Y1x (by simp;omega)
  by_cases hx:xs= []
  · subst hx
    refine⟨.sl q 0 1 1 1 true,h.put q (.cells e [.int .i64 x]),?_,.inr (.inr ⟨q,0,1,true,e,_,rfl,hqn,by rw[get_put,Y0e rfl],by simp,fun i hi=> ?_⟩),fun r hr=> ?_,Y0u _⟩
    · unfold q0Z
      simp only[hti,hy,hl,z2r,hys,hsrc,hcell,h1]
      simp only[hq]
      rfl
    · have:i=0:=by simpa using hi
      subst this;rfl
    · rw[get_put]
      by_cases hqr:q=r
      ·subst hqr;rw[Y0e rfl,hq]
      ·rw[Y0c hqr]
  · have hpos:0<xs.length:=List.length_pos_iff.2 hx
    have e4:Nat.ble (Nat.add 1 xs.length) 1=false:=by
      cases hc:Nat.ble (Nat.add 1 xs.length) 1 with
      |false=>rfl
      |true=>have:=Y0J hc;simp at this;omega
    refine⟨.sl h.nx 0 (1+xs.length) (1+xs.length) 1 false,h.new (.cells e ([.int .i64 x]++xs.map (.int .i64))),?_,.inr (.inr ⟨h.nx,0,1+xs.length,false,e,_,by simp[Nat.add_comm],Y0B _,by rw[get_new,Y0e rfl],by simp,fun i hi=> ?_⟩),fun r hr=>by rw[get_new,Y0c (by omega)],Y0A _⟩
    · unfold q0Z
      simp only[hti,hy,hl,z2r,hys,hsrc,hcell,h1]
      rw[hys]at h2
      rw[h2]
      simp only[hq,hz]
      rw[e3,e4]
      rfl
    · cases i with
      |zero=>rfl
      | succ i=>
        have hi':i<xs.length:=by simpa using hi
        simp[hi']
theorem x8d{q:Nat}{x:Int}{e:TypeId}{ex:Bool}{cap:Nat}(hg:h.get q=some (.cells e [.int .i64 x]))(hq:q<h.nx):RdI h (.sl q 0 1 cap 1 ex) [x]:=
 .inr (.inr ⟨q,0,cap,ex,e,_,rfl,hq,hg,Y0u _,fun i hi=>by have:i=0:=(by simpa using hi);subst this;rfl⟩)
theorem TW.gen{P:Program}{F:Nat→Option Obj}{c:Code}{n:Nat}{rd:Option Nat}{l:Kn}{ds:List ADef}{Q:PQ}(p:Hp→Prop)(hp:p h)(ht:∀g,p g→TW P F c n rd l g ds Q):TW P F c n rd l h ds Q:=ht h hp
abbrev Y2U:=@TW.gen
theorem bMul{C:Ctx}{t:TypeId}{a b:Int}(h1: -9223372036854775808≤a*b)(h2:a*b≤9223372036854775807):q0B C .mul t (.int .i64 a) (.int .i64 b)=some (.int .i64 (a*b)):=by
 show some (AV.int .i64 (q9r .i64 (mulI a b)))=_;rw[x8h,wrap_i64 h1 h2]
theorem inc_{C:Ctx}{t:TypeId}{i:Nat}(h1:i<4611686018427387904):q0B C .add t (.int .i64 (i:Int)) (.int .i64 1)=some (.int .i64 ((i:Int)+1)):=bAdd (by omega) (by omega)
end Go.Ax
noncomputable section
namespace Go.Ax
variable{P:Program}{F:Nat→Option Obj}{gl:Nat→AV}{K:Knob}{C:Ctx}{n:Nat}{rd:Option Nat}{l l':Kn}{h h1:Hp}{ds:List ADef}{s:St}{Q Q':PQ}{all rest:List Oper}
def RoundT(P:Program)(F:Nat→Option Obj)(h:Hp)(O:AV→Hp→Prop)(lp:Nat)(args:List AV):Prop:=
 ∀(m:Loc) (w:World) (k:Nat) (cargs:Array Value) (b z:Nat),m lp=some (b,z)→HRel P F m h w→LRel P F m args cargs.toList→Fre m h→
  ∃f tmps asn body,(Instr.yield b cargs).run P w= .ok (.round b f tmps asn body) w∧RoundIn Fence.wide k P b f tmps asn body w (fun e w'=>∃v h',O v h'∧HpLe h h'∧Heard P F m h h' w v e w')
def endR(lp:Nat)(O:AV→Hp→Prop):PQ:=fun e _ g _=>∃pd tm n ps asn body dd,g.get lp=some (.loop .busy pd tm n ps asn body dd)∧match e with
 | .normal=>O (.bool true) (g.put lp (.loop .ready none tm n ps asn body dd))
 | .ret=>O (.bool false) (g.put lp (.loop .done (some .ret) tm n ps asn body dd))
 | .exit id=>O (.bool false) (g.put lp (.loop .done (some (.exit id)) tm n ps asn body dd))
 | .goto t=>O (.bool false) (g.put lp (.loop .done (some (.goto t)) tm n ps asn body dd))
 | .panic _=>False
theorem RoundT.intro{O:AV→Hp→Prop}{lp:Nat}{args:List AV}{pd:Option Code}{tm tm':Tr AV}{ps:List Nat}{asn body:Code}{dd:Nat}(hg:h.get lp=some (.loop .ready pd tm n ps asn body dd))(hp:z3D tm ps args=some tm')(hps:(ps.all fun p=>Nat.blt p n)=true)
  (l0:Kn) (hl:∀t v,kn l0 t=some v→tget tm' t=v)
  (ht:TW P F asn n (some lp) l0 h [] (fun e l1 h1 ds1=>e= .normal∧∃pd2 tm2 n2 ps2 as2 b2 dd2,h1.get lp=some (.loop .ready pd2 tm2 n2 ps2 as2 b2 dd2)∧TW P F body n (some lp) l1 (h1.put lp (.loop .busy pd2 tm2 n2 ps2 as2 b2 dd2)) ds1 (endR lp O))):
  RoundT P F h O lp args:=by
 intro m w k cargs b z hm hr hA hF
 obtain⟨fn,tmps,cds,zd,h1,h2,h3⟩:=z4G hr hg hm
 obtain⟨g1,g2⟩:=q9J ps args cargs.toList tm tm' tmps hp hA hps h2
 have hsz:cargs.size=ps.toArray.size:=by have:=hA.len;simp at this;simp;omega
 have hfold:(ps.toArray.zip cargs).foldl (fun tmps (x:Nat×Value)=>tmps.setIfInBounds x.1 x.2) tmps=(ps.zip cargs.toList).foldl (fun tmps (x:Nat×Value)=>tmps.setIfInBounds x.1 x.2) tmps:=by
  rw[←Array.foldl_toList];simp[Array.toList_zip]
 refine⟨fn,_,asn,body,x0O h1 hsz,roundIn_of_wpIn trivial ?_⟩
 dsimp only
 rw[hfold]
 have hs0:Atk {n:=n,tm:=tm',h:=h,ds:=[],rd:=some lp} n (some lp) l0 h []:=⟨rfl,rfl,rfl,rfl,hl⟩
 refine wpIn_mono (ht _ hs0 m _ w (Fence.wide.inRound b) k hr ⟨g2,.nil⟩ ⟨b,z,hm,rfl⟩ hF) fun x1 act1 w1 hp1=> ?_
 obtain⟨e1,s1,l1,h1',ds1,⟨rfl,pd2,tm2,n2,ps2,as2,b2,dd2,hg1,ht2⟩,hs1,hle1,m1,hx1,hst1,ha1⟩:=hp1
 cases hx1
 have hm1:=hst1.le _ _ hm
 rw[hs1.h]at hst1
 obtain⟨fn1,tmps1,cds1,zd1,h11,h12,h13⟩:=z4G hst1.rel hg1 hm1
 have hst:=z9t (st':=.busy) (pd':=pd2) (fn:=fn1) hst1.rel hg1 hm1 h12 h13
 have hst1':=hst1.trans hst
 refine⟨_,z2j h11 rfl,?_⟩
 refine wpIn_mono (ht2 {s1 with h:=h1'.put lp (.loop .busy pd2 tm2 n2 ps2 as2 b2 dd2)} ⟨hs1.n,rfl,hs1.ds,hs1.rd,hs1.tm⟩ m1 act1 _ (Fence.wide.inRound b) k hst.rel ⟨ha1.tm,ha1.ds⟩ ⟨b,z,hm1,rfl⟩ (hF.after hst1')) fun x2 act2 w2 hp2=> ?_
 obtain⟨e2,s2,l2,h2',ds2,⟨pd3,tm3,n3,ps3,as3,b3,dd3,hg2,hO⟩,hs2,hle2,m2,hx2,hst2,ha2⟩:=hp2
 have hh:=hs2.h
 rw[←hh]at hg2 hO hle2
 have hs:=hst1'.trans hst2
 have hm2:=hst2.le _ _ hm1
 have hle:∀o,HpLe h (s2.h.put lp o):=fun o=>((hle1.trans (Y1L hg1 _)).trans hle2).trans (Y1L hg2 o)
 cases hx2 with
 |normal=>obtain⟨v,w',q1,q2⟩:=z0D hs hg2 hm2 none;exact⟨v,w',q1,_,_,hO,hle _,q2⟩
 |ret=>obtain⟨v,w',q1,q2⟩:=z0D hs hg2 hm2 (some .ret);exact⟨v,w',q1,_,_,hO,hle _,q2⟩
 |exit id=>obtain⟨v,w',q1,q2⟩:=z0D hs hg2 hm2 (some (.exit id));exact⟨v,w',q1,_,_,hO,hle _,q2⟩
 |goto t=>obtain⟨v,w',q1,q2⟩:=z0D hs hg2 hm2 (some (.goto t));exact⟨v,w',q1,_,_,hO,hle _,q2⟩
 |panic hv=>exact False.elim hO
theorem TO.ycall(hP:POk P F gl K){lp:Nat}{x:Operand}{aas:Array Operand}{ts:Array TypeId}{d:Nat}{ty:TypeId}{pos:String}{aft:Array Edge}{gd:Option (Nat×Bool)}{vs:List AV}{O:AV→Hp→Prop}
  (hw:q6M all l ⟨some d,.call {callee:=.value x,args:=aas,argTypes:=ts},ty,pos,aft,gd⟩=some true) (hb:Nat.blt d n=true)
  (hx:evK (Ctx.of P gl K) l x=some (.fn (.yield lp) [] [])) (hv:evsK (Ctx.of P gl K) l aas.toList=some vs) (hc:RoundT P F h O lp vs)
  (k:∀v h',O v h'→TO P F all rest n rd ((d,v)::l) h' ds Q):TO P F all (⟨some d,.call {callee:=.value x,args:=aas,argTypes:=ts},ty,pos,aft,gd⟩::rest) n rd l h ds Q:=by
 intro ops i hall hdr s hs m a w fe j Qx hr ha hf hF hQ
 obtain⟨ho',hd'⟩:=q9d hdr
 subst hall
 have ho'':ops[i]? =some ⟨some d,.call {callee:=.value x,args:=aas,argTypes:=ts},ty,pos,aft,gd⟩:=by simpa using ho'
 have hwt:=q5d ha (hs.want hw)
 simp only[Y2i,Y1i,wpOpsIn,ho'',hwt,Y1n]
 have hfv:=q0F hP ha.tm x
 rw[hs.ev hx]at hfv
 obtain⟨f',p,q,e1,hfn,hp,hq⟩:=hfv.fn_inv
 cases hfn with
 |yield hm=>
 rename_i b z
 have hp0:p= #[]:=by have:=hp.cases_nil;simpa using this
 have hq0:q= #[]:=by have:=hq.cases_nil;simpa using this
 subst hp0 hq0
 have hA:LRel P F m vs (aas.map a.eval).toList:=by rw[←hs.evs hv];exact q9y (q0F hP ha.tm) aas
 obtain⟨f,tmps,asn,body,g1,g2⟩:=hc m w (j-1) (aas.map a.eval) b z hm hr hA hF
 refine⟨fun f _=>hf.fn f,?_⟩
 have hrun:(execOp a.eval (⟨some d,.call {callee:=.value x,args:=aas,argTypes:=ts},ty,pos,aft,gd⟩:Oper)).run P w= .ok (.round b f tmps asn body) w:=by
  unfold execOp
  simp only[resolve,e1]
  show Sem.run P (Instr.yield b (#[]++aas.map a.eval)) w=_
  rw[Array.empty_append];exact g1
 rw[Oper.semAt_eq _ _ _ (fun c e=>by cases e),hrun]
 refine⟨fun h=>(by rw[hf.depth]at h;cases h),?_⟩
 have h3:RoundIn fe (j-1) P b f tmps asn body w (fun e w'=>∃v h',O v h'∧HpLe h h'∧Heard P F m h h' w v e w'):=by
  cases rd with
  |none=>cases hf;exact g2
  |some l=>obtain⟨_,_,_,rfl⟩:=hf;exact g2
 refine h3.mono fun e w' he=> ?_
 obtain⟨v,h',hov,hle,cv,m',rfl,hst,hv'⟩:=he
 obtain⟨s1,hp,hs1⟩:=hs.put hb v h'
 exact k v h' hov ops (i+1) rfl hd' s1 hs1 m' _ w' fe j Qx hst.rel (z3w hp (ha.mono hst.le) hv').1 (hf.mono hst.le) (hF.after hst) fun x a' w'' hp=>hQ _ _ _ (hp.after hst hle)
def behindR(Q:PQ)(l:Kn)(d:Nat)(ds:List ADef)(g:Hp):Prop:=
 ∃st pd tm n ps asn body dd,g.get (d+1)=some (.loop st pd tm n ps asn body dd)∧st≠ .busy∧match pd with
  |none=>Q .normal l (g.put (d+1) .dead) (.coll d::ds)
  |some .ret=>Q .ret l (g.put (d+1) .dead) (.coll d::ds)
  |some (.exit id)=>Q (.exit id) l (g.put (d+1) .dead) (.coll d::ds)
  |some (.goto t)=>Q (.goto t) l (g.put (d+1) .dead) (.coll d::ds)
  |some _=>False
theorem TW.rangeF(hP:POk P F gl K){g:Operand}{ps:Array Nat}{asn body:Code}{f:FuncId}{first cap:List AV}(hx:evK (Ctx.of P gl K) l g=some (.fn (.func f) first cap))(hf:IsFn P f)
    (hc:∀tm0:Tr AV,(∀t v,kn l t=some v→tget tm0 t=v)→CallsT P F ((h.new (.defd (some []))).new (.loop .ready none tm0 n ps.toList asn body h.nx)) (fun _ g=>behindR Q l h.nx ds g) f (first++[.fn (.yield (h.nx+1)) [] []]++cap)):
    TW P F (.rangeFunc g ps asn body) n none l h ds Q:=by
  intro s hs m a w fe k hr ha hfe hF
  cases hfe
  have hh:=hs.h
  obtain⟨fn,c,c1,c2⟩:=hf
  have n0:m h.nx=none:=hF _ (Y0u _)
  refine wpIn_rangeFunc fun fnn _=> ?_
  have s1:Step P F m h (h.new (.defd (some []))) w {w with heap:=w.heap.push (.deferred (some []))} (m.put h.nx w.heap.size 0):=
    Step.alloc hr n0 (z:=0) rfl ⟨rfl,rfl,rfl⟩ (.inl ⟨rfl,rfl⟩)
  have n1:(m.put h.nx w.heap.size 0) (h.nx+1)=none:=by
    rw[Y0w _ _ _ (by omega)]
    exact hF _ (Y0A _)
  have le1:=s1.le
  have htm:TRel P F m s.tm n a.tmps:=by have:=ha.tm;rw[hs.n]at this;exact this
  have s2:Step P F (m.put h.nx w.heap.size 0) (h.new (.defd (some []))) ((h.new (.defd (some []))).new (.loop .ready none s.tm n ps.toList asn body h.nx)) {w with heap:=w.heap.push (.deferred (some []))}
      {w with heap:=(w.heap.push (.deferred (some []))).push (.loop {state:=.ready,pending:=none,fn:=fnn,tmps:=a.tmps,params:=ps,assign:=asn,body:=body,defers:=w.heap.size})}
      ((m.put h.nx w.heap.size 0).put (h.nx+1) (w.heap.push (.deferred (some []))).size 0):=by
    refine Step.alloc s1.rel n1 (z:=0) rfl ⟨rfl,rfl,rfl⟩ ⟨fnn,a.tmps,w.heap.size,0,by simp,?_,?_⟩
    ·exact(htm.mono le1).mono (Loc.le_put n1)
    ·rw[Y0w _ _ _ (by show h.nx≠h.nx+1;omega)];exact Y0v _ _ _ _
  have s12:=s1.trans s2
  generalize hm2:(m.put h.nx w.heap.size 0).put (h.nx+1) (w.heap.push (.deferred (some []))).size 0=m2 at s2 s12
  have md:m2 h.nx=some (w.heap.size,0):=by rw[←hm2,Y0w _ _ _ (by omega)];exact Y0v _ _ _ _
  have ml:m2 (h.nx+1)=some ((w.heap.push (.deferred (some []))).size,0):=by rw[←hm2];exact Y0v _ _ _ _
  have hgv:=q0F hP (ha.tm.mono s12.le) g
  rw[hs.ev hx]at hgv
  obtain⟨f',x,y,e1,e2,e3,e4⟩:=hgv.fn_inv
  cases e2
  refine⟨(w.heap.push (.deferred (some []))).size,[{target:=.collected w.heap.size,args:= #[]}],
    {w with heap:=(w.heap.push (.deferred (some []))).push (.loop {state:=.ready,pending:=none,fn:=fnn,tmps:=a.tmps,params:=ps,assign:=asn,body:=body,defers:=w.heap.size})},
    {target:=.fn (.func f) y,args:=x++ #[.func (.yield (w.heap.push (.deferred (some []))).size) #[] #[]]},
    {w with heap:=(w.heap.push (.deferred (some []))).push (.loop {state:=.ready,pending:=none,fn:=fnn,tmps:=a.tmps,params:=ps,assign:=asn,body:=body,defers:=w.heap.size})},
    f,(x++ #[.func (.yield (w.heap.push (.deferred (some []))).size) #[] #[]])++y,
    {w with heap:=(w.heap.push (.deferred (some []))).push (.loop {state:=.ready,pending:=none,fn:=fnn,tmps:=a.tmps,params:=ps,assign:=asn,body:=body,defers:=w.heap.size})},
    rfl,?_,fun _ _=>trivial,?_,nofun,?_⟩
  · unfold resolve
    simp only[e1]
    simp[Deferred.ofValue,Act.eval]
  ·exact q3F c1 (hP.names f fn c1 (by rw[c2];rfl)) c2 _ _
  · have hF2:Fre m2 ((h.new (.defd (some []))).new (.loop .ready none s.tm n ps.toList asn body h.nx)):=hF.after s12
    have hargs:LRel P F m2 (first++[.fn (.yield (h.nx+1)) [] []]++cap) ((x++ #[Value.func (.yield (w.heap.push (.deferred (some []))).size) #[] #[]])++y).toList:=by
      rw[Y1F,Y1F]
      refine(e3.append (.cons ?_ .nil)).append e4
      exact .fn (a:= #[]) (c:= #[]) (.yield ml) rfl (fun i x y h _=>by simp at h) rfl (fun i x y h _=>by simp at h)
    refine(hc s.tm hs.tm m2 _ (k-1) _ s12.rel hargs hF2).mono fun e w3 he=> ?_
    obtain⟨v,h3,⟨st,pd,tm,n',ps',asn',b',ds',hg3,hst,hQ⟩,hle3,cv,m3,rfl,hs3,_⟩:=he
    have ml3:=hs3.le _ _ ml
    have md3:=hs3.le _ _ md
    obtain⟨fn3,tmps3,cds3,zd3,g1,g2,g3⟩:=z4G hs3.rel hg3 ml3
    have hs4:=Step.obj hs3.rel hg3 rfl ml3 (o:=.dead) (ob:=.loop {state:=.exhausted,pending:=pd,fn:=fn3,tmps:=tmps3,params:=ps'.toArray,assign:=asn',body:=b',defers:=cds3}) trivial
    have hall:=(s12.trans hs3).trans hs4
    have hA:ARel P F m3 {s with h:=h3.put (h.nx+1) .dead,ds:=.coll h.nx::s.ds} {a with defers:=[{target:=.collected w.heap.size,args:= #[]}]++a.defers}:=
      ⟨(ha.tm.mono s12.le).mono hs3.le,.cons (.coll md3) ((ha.ds.mono s12.le).mono hs3.le)⟩
    have hAt:Atk {s with h:=h3.put (h.nx+1) .dead,ds:=.coll h.nx::s.ds} n none l (h3.put (h.nx+1) .dead) (.coll h.nx::ds):=⟨hs.n,rfl,by show ADef.coll h.nx::s.ds=_;rw[hs.ds],hs.rd,hs.tm⟩
    have hle:=((HpLe.new h (.defd (some []))).trans (HpLe.new _ _)).trans (hle3.trans (Y1L hg3 .dead))
    refine⟨pd,_,x3q g1 hst,?_⟩
    cases pd with
    |none=>exact⟨.normal,_,_,_,_,hQ,hAt,hle,m3,.normal,hall,hA⟩
    | some c=>cases c with
      |ret=>exact wpIn_ret ⟨.ret,_,_,_,_,hQ,hAt,hle,m3,.ret,hall,hA⟩
      |exit id=>exact wpIn_exit ⟨.exit id,_,_,_,_,hQ,hAt,hle,m3,.exit id,hall,hA⟩
      |goto t=>exact wpIn_goto ⟨.goto t,_,_,_,_,hQ,hAt,hle,m3,.goto t,hall,hA⟩
      |_=>exact False.elim hQ
end Go.Ax
noncomputable section
namespace Go.Ax
variable{P:Program}{F:Nat→Option Obj}{gl:Nat→AV}{eqT:Knob}{C:Ctx}{n:Nat}{rd:Option Nat}{l l':Kn}{h h1:Hp}{ds:List ADef}{s:St}{Q Q':PQ}{all rest:List Oper}
abbrev RK:=Option (Kn×Hp×List Oper)
def runG (P:Program) (C:Ctx) (n:Nat) (all:List Oper):List Oper→Kn→Hp→RK
  |[],l,h=>some (l,h,[])
  | o :: r,l,h=>match q6M all l o with
    |none=>none
    | some b=>bif b then
        (if stops o=true then some (l,h,o::r)else if knowns l o.op.operands.toList=true then(match opA P C nix (knSt l h) o with
        | some (.val v h1)=>(match o.dst with
          |some d=>if d<n then runG P C n all r ((d,v)::l) h1 else none
          |none=>runG P C n all r l h1)
        |_=>none)else none)
      else(match o.dst with
        |some d=>if d<n then runG P C n all r ((d,.tup [])::l) h else none
        |none=>runG P C n all r l h)
def z8Z (P:Program) (C:Ctx) (n:Nat) (all:List Oper) (b:Bool) (o:Oper) (r:List Oper) (l:Kn) (h:Hp):RK:=
  bif b then
        (if stops o=true then some (l,h,o::r)else if knowns l o.op.operands.toList=true then(match opA P C nix (knSt l h) o with
        | some (.val v h1)=>(match o.dst with
          |some d=>if d<n then runG P C n all r ((d,v)::l) h1 else none
          |none=>runG P C n all r l h1)
        |_=>none)else none)
      else(match o.dst with
        |some d=>if d<n then runG P C n all r ((d,.tup [])::l) h else none
        |none=>runG P C n all r l h)
def putG (P:Program) (C:Ctx) (n:Nat) (all r:List Oper) (d:Option Nat) (l:Kn):Option OpR→RK
  | some (.val v h1)=>(match d with
          |some d=>if d<n then runG P C n all r ((d,v)::l) h1 else none
          |none=>runG P C n all r l h1)
  |_=>none
theorem runG_nil{l:Kn}{h:Hp}:runG P C n all [] l h=some (l,h,[]):=Y2V rfl rfl
def wG(P:Program)(C:Ctx)(n:Nat)(all:List Oper)(w:Option Bool)(o:Oper)(r:List Oper)(l:Kn)(h:Hp):RK:=
 match w with
 |none=>none
 |some b=>z8Z P C n all b o r l h
def skipG(P:Program)(C:Ctx)(n:Nat)(all r:List Oper)(d:Option Nat)(l:Kn)(h:Hp):RK:=
 match d with
 |some d=>if d<n then runG P C n all r ((d,.tup [])::l) h else none
 |none=>runG P C n all r l h
theorem runG_cons{o:Oper}{r:List Oper}{l:Kn}{h:Hp}:runG P C n all (o::r) l h=wG P C n all (q6M all l o) o r l h:=by
 show(match q6M all l o with|none=>none|some b=>_)=_
 cases q6M all l o<;>rfl
theorem wG_some{b:Bool}{o:Oper}{r:List Oper}{l:Kn}{h:Hp}:wG P C n all (some b) o r l h=z8Z P C n all b o r l h:=Y2V rfl rfl
theorem x6T{o:Oper}{r:List Oper}{l:Kn}{h:Hp}:z8Z P C n all true o r l h=if stops o=true then some (l,h,o::r)else if knowns l o.op.operands.toList=true then putG P C n all r o.dst l (opA P C nix (knSt l h) o)else none:=by
 refine Y2V ?_ rfl
 unfold z8Z putG
 rfl
theorem x3R{o:Oper}{r:List Oper}{l:Kn}{h:Hp}:z8Z P C n all false o r l h=skipG P C n all r o.dst l h:=Y2V rfl rfl
theorem skipG_dst{r:List Oper}{d:Nat}{l:Kn}{h:Hp}:skipG P C n all r (some d) l h=if d<n then runG P C n all r ((d,.tup [])::l) h else none:=Y2V rfl rfl
theorem putG_dst{r:List Oper}{d:Nat}{l:Kn}{v:AV}{h:Hp}:putG P C n all r (some d) l (some (.val v h))=if d<n then runG P C n all r ((d,v)::l) h else none:=Y2V rfl rfl
theorem putG_none{r:List Oper}{l:Kn}{v:AV}{h:Hp}:putG P C n all r none l (some (.val v h))=runG P C n all r l h:=Y2V rfl rfl
theorem TO.runG(hP:POk P F gl eqT):∀{rest:List Oper} {l:Kn} {h:Hp},goK P F all n rd ds Q (runG P (Ctx.of P gl eqT) n all rest l h)→TO P F all rest n rd l h ds Q
  |[],l,h,hg=>.nil hg
  | o ::r,l,h,hg=>by
    have hod:∀{v h1},knowns l o.op.operands.toList=true→opA P (Ctx.of P gl eqT) nix (knSt l h) o=some (.val v h1)→OpT P F o n rd l h ds (fun u g=>u=v∧g=h1):=fun hk ho=>.det hP q0f fun s hs=>by
      rw[q7T (s':=knSt l h) hs.h (fun x hx=>q7U hs hk x (by simpa using hx))]
      exact ho
    unfold Go.Ax.runG at hg
    split at hg
    ·cases hg
    rename_i b hw
    cases b with
    | true=>
      rw[Y0V]at hg
      split at hg
      ·exact hg
      split at hg
      case isFalse=>cases hg
      rename_i hk
      split at hg
      case h_2=>cases hg
      rename_i v h1 ho
      split at hg
      · rename_i d hd
        split at hg
        case isFalse=>cases hg
        rename_i hb
        exact .step hw hd (Y1x hb) (hod hk ho) fun v' h' e=>by obtain⟨rfl,rfl⟩:=e;exact .runG hP hg
      · rename_i hd
        exact .step0 hw hd (hod hk ho) fun v' h' e=>by obtain⟨rfl,rfl⟩:=e;exact .runG hP hg
    | false=>
      rw[Y1b]at hg
      split at hg
      · rename_i d hd
        split at hg
        case isFalse=>cases hg
        rename_i hb
        exact .left hw hd (Y1x hb) (.runG hP hg)
      · rename_i hd
        exact .left0 hw hd (.runG hP hg)
theorem TW.regG(hP:POk P F gl eqT){id:Nat}{ops:Array Oper}{r:RK}(hr:Go.Ax.runG P (Ctx.of P gl eqT) n ops.toList ops.toList l h=r)(hg:goK P F ops.toList n rd ds Q r):TW P F (.region id ops false) n rd l h ds Q:=by
 subst hr
 exact .region (.runG hP hg)
abbrev Y2W:=@TW.regG
theorem TO.runsG(hP:POk P F gl eqT){r:RK}(hr:Go.Ax.runG P (Ctx.of P gl eqT) n all rest l h=r)(hg:goK P F all n rd ds Q r):TO P F all rest n rd l h ds Q:=by
 subst hr
 exact .runG hP hg
abbrev Y2X:=@TO.runsG
theorem q1G{b:Bool}{o:Oper}{r:List Oper}(ht:b=true→goK P F all n rd ds Q (z8Z P C n all true o r l h))(hf:b=false→goK P F all n rd ds Q (z8Z P C n all false o r l h)):goK P F all n rd ds Q (z8Z P C n all b o r l h):=by
 cases b with
 |true=>exact ht rfl
 |false=>exact hf rfl
theorem z8u{x r:RK}(hr:x=r)(hg:goK P F all n rd ds Q r):goK P F all n rd ds Q x:=by subst hr;exact hg
attribute [simp] x6T x3R runG_nil runG_cons putG_dst putG_none wG_some skipG_dst
attribute [irreducible] z8Z runG putG wG skipG
end Go.Ax
noncomputable section
namespace Go.Ax
variable{C:Ctx}{h:Hp}
def z8s:Option TI→Bool
 |some ti=>z2r ti.desc
 |none=>false
theorem Own.more {es:Nat} {t xt eT:TypeId} {b k:Nat} {v x:AV} {rows rows':List (List AV)} (ht:slT C t eT es=true) (hxt:z8s (C.ti xt)=true) (ho:Own es eT b h v rows) (hrows:∀c∈rows,c.length=es) (hl:lenA x=some k) (hk:rows'.length=k)
    (hsrc:q0N h es k x=some rows'.flatten) (hrows':∀c∈rows',c.length=es) (hcell:rows'.flatten.all q1f=true) (hlen:rows.length+rows'.length≤1000000) (hb:b≤h.nx):
    ∃v' h',q0Z C t xt v x h=some (v',h')∧Own es eT b h' v' (rows++rows')∧WidB b h h':=by
  unfold slT at ht
  split at ht
  case h_2=>cases ht
  rename_i e size isAgg zero zeroOk bytes comparable zv y hti hy
  simp only[Y1X,Y2h]at ht
  obtain⟨rfl,hys,hz,hby⟩:=ht
  subst hk
  have hnl:rows'.flatten.length=rows'.length*es:=q5K hrows'
  cases hx:C.ti xt with
  |none=>rw[hx]at hxt;cases hxt
  |some xi=>
  rw[hx]at hxt
  have hxi:z2r xi.desc=true:=hxt
  have key : ∀ s, q0Z C t xt s x h=(match s with
        | .nilsl=>bif Nat.beq rows'.length 0 then some (.nilsl,h)else
            bif y.zeroOk&&Nat.ble rows'.length 1000000 then some (.sl h.nx 0 rows'.length rows'.length y.size false,h.new (.cells e rows'.flatten))else none
        | .sl r o len cap es' ex=>
          (match h.get r with
           | some (.cells e' cs)=>
             bif Nat.beq es' y.size&&(Nat.ble (Nat.add o (Nat.mul len es')) cs.length&&Nat.ble (Nat.add len rows'.length) 1000000)then
               bif Nat.ble (Nat.add len rows'.length) cap then
                 (bif Nat.ble (Nat.add (Nat.add o (Nat.mul len es')) rows'.flatten.length) cs.length then
                   some (.sl r o (Nat.add len rows'.length) cap es' ex,h.put r (.cells e' (q1h cs (Nat.add o (Nat.mul len es')) rows'.flatten)))else none)
               else bif !y.zeroOk then none else bif ex then some (.sl h.nx 0 (Nat.add len rows'.length) (Nat.add len rows'.length) es' false,h.new (.cells e ((cs.drop o).take (Nat.mul len es')++rows'.flatten)))
               else bif Nat.beq o 0&&Nat.ble (Nat.mul len es') cs.length then
                 (bif Nat.beq e e' then some (.sl h.nx 0 (Nat.add len rows'.length) (Nat.add len rows'.length) es' false,(h.put r .dead).new (.cells e' (cs.take (Nat.mul len es')++rows'.flatten)))else none)
               else none
             else none
           |_=>none)
        |_=>none):=fun s=>by
    unfold q0Z
    rw[hti,hx,hl]
    dsimp only
    rw[hy,hxi]
    dsimp only
    rw[hys,hsrc]
    dsimp only
    rw[hcell]
    have h2:Nat.ble y.bytes 1000000=true:=Y1x hby
    have h3:Nat.beq rows'.flatten.length (Nat.mul rows'.length es)=true:=by rw[hnl];exact Y1o _
    rw[h2,h3]
    cases s<;>rfl
  by_cases h0:rows'.length=0
  · obtain rfl:=Y1y h0
    rcases ho with⟨rfl,rfl⟩|⟨h1,r,h2,h3,rfl,h5⟩
    ·exact⟨.nilsl,h,by rw[key];rfl,.inl ⟨rfl,rfl⟩,.refl _ _⟩
    · have hfl:=q5K hrows
      refine⟨.sl r 0 rows.length rows.length es false,h.put r (.cells e rows.flatten),?_,.inr ⟨by simpa using h1,r,h2,h3,?_,?_⟩,(WidB.refl _ _).put h2 _⟩
      · rw[key]
        simp only[h5]
        simp[z6K,q3m,hys,hfl,q1h]
        have:=hlen
        simp at this
        simp[this]
      ·simp
      ·simp[get_put]
  · have hne:rows'≠ []:=fun e=>h0 (by rw[e];rfl)
    rcases ho with⟨rfl,rfl⟩|⟨h1,r,h2,h3,rfl,h5⟩
    · refine⟨.sl h.nx 0 rows'.length rows'.length es false,h.new (.cells e rows'.flatten),?_,.inr ⟨by simpa using hne,h.nx,hb,by simp[nx_new],by simp,?_⟩,(WidB.refl _ _).new hb _⟩
      · rw[key]
        have h4:rows'.length≤1000000:=by simpa using hlen
        simp[z6K,q3m,h0,hz,hys,h4]
      ·simp[get_new]
    · have hfl:=q5K hrows
      refine⟨.sl h.nx 0 (rows++rows').length (rows++rows').length es false,(h.put r .dead).new (.cells e (rows++rows').flatten),?_,.inr ⟨by simp[h1],h.nx,hb,by simp[nx_new,nx_put],rfl,?_⟩,((WidB.refl _ _).put h2 _).new hb _⟩
      · rw[key]
        simp only[h5]
        have h6:rows.length+rows'.length≤1000000:=hlen
        have h7:¬rows.length+rows'.length≤rows.length:=by omega
        have h8:rows.flatten.take (rows.length*es)=rows.flatten:=Y2Q (by omega)
        simp only[z6K,q3m,hys,hfl,hz,h8,Nat.add_eq,Nat.mul_eq,Y2F h7,Y2G h6]
        simp
      ·simp[get_new,nx_put]
end Go.Ax
noncomputable section
namespace Go.Ax
mutual
def scal:AV→Bool
 | .bool _=>true
 | .int _ _=>true
 | .str _=>true
 | .nilsl=>true
 | .nilptr=>true
 | .nilif=>true
 | .tup l=>scals l
 | .agg l=>scals l
 |_=>false
def scals:List AV→Bool
 |[]=>true
 |v::l=>scal v&&scals l
end
theorem z9n:∀{l:List AV} {i:Nat} {x:AV},scals l=true→l[i]? =some x→scal x=true
  |[],i,x,_,h=>by simp at h
  | v::l,0,x,h,hx=>by
    simp at hx;subst hx
    unfold scals at h
    exact(q0p h).1
  | v::l,i+1,x,h,hx=>by
    unfold scals at h
    exact z9n (q0p h).2 (by simpa using hx)
variable{P:Program}{F:Nat→Option Obj}
theorem VRel.scal{m m':Loc}{x:AV}{v:Value}(h:VRel P F m x v):Go.Ax.scal x=true→VRel P F m' x v:=by
 induction h with
 |bool b=>intro _;exact .bool b
 |int k n=>intro _;exact .int k n
 |str s=>intro _;exact .str s
 |nilptr=>intro _;exact .nilptr
 |nilsl=>intro _;exact .nilsl
 |nilif=>intro _;exact .nilif
 |agg hl _ ih=>intro hn;simp only[Go.Ax.scal]at hn;exact .agg hl fun i x y hx hy=>ih i x y hx hy (z9n hn hx)
 |tup hl _ ih=>intro hn;simp only[Go.Ax.scal]at hn;exact .tup hl fun i x y hx hy=>ih i x y hx hy (z9n hn hx)
 |_=>intro hn;simp[Go.Ax.scal]at hn
theorem CallsT.of_frz{h:Hp}{v:AV}{f:FuncId}{args fargs:List AV}(hp:PureC P F f fargs v)(hfr:mapO (frzV 20 h) args=some fargs)(hs:scal v=true):CallsT P F h (fun u g=>u=v∧g=h) f args:=by
 intro m w n cargs hR hA _
 let K:Nat→Prop:=fun b=>∃r o z,h.get r=some o∧o.live=true∧m r=some (b,z)
 have dK:∀b,Decidable (K b):=fun b=>Classical.propDecidable _
 let fz2:Nat→Option Obj:=fun b=> @ite _ (K b) (dK b) w.heap[b]? (m.fz b)
 have f1:∀b o,m.fz b=some o→fz2 b=some o:=fun b o hb=>by
  show @ite _ (K b) (dK b) w.heap[b]? (m.fz b)=some o
  split
  ·exact hR.frz b o (.inr hb)
  ·exact hb
 have f2:∀b o,fz2 b=some o→w.heap[b]? =some o:=fun b o hb=>by
  have hb: @ite _ (K b) (dK b) w.heap[b]? (m.fz b)=some o:=hb
  split at hb
  ·exact hb
  ·exact hR.frz b o (.inr hb)
 have hA':LRel P F ⟨fun _=>none,fz2⟩ fargs cargs.toList:=by
  refine z1u (fun x v y hv hy=>z3z (fz:=fz2) hR f1 (fun r o b z ob hg hl hm hb=> ?_) 20 x v y hv hy) hA hfr
  show @ite _ (K b) (dK b) w.heap[b]? (m.fz b)=some ob
  rw[Y0e ⟨r,o,z,hg,hl,hm⟩];exact hb
 refine(hp ⟨fun _=>none,fz2⟩ w n cargs (fun b o hb=>hb.elim (fun hb=>hR.frz b o (.inl hb)) (f2 b o)) hA').mono fun e w' he=> ?_
 obtain⟨cv,fz,rfl,hsm,hz,hold,hfz,hle,hnew,hv⟩:=he
 refine⟨v,h,⟨rfl,rfl⟩,.refl _,cv,m,rfl,⟨⟨fun _ _ h=>h,fun _ _ h=>h⟩,fun r c h1 h2=> ?_,⟨fun r o b z hg hm=> ?_,hR.inj,hR.out,fun b o hb=> ?_,hR.wf⟩,hsm,hz,fun b hb _=>hold b hb,Y0u _,fun r o' c hg hl _=>⟨o',hg,hl⟩,fun r b z h1 h2 _=> ?_,fun b o hb=>.inl hb⟩,hv.scal hs⟩
 ·rw[h1]at h2;cases h2
 ·have h1:=hR.obj r o b z hg hm
  by_cases hl:o.live=true
  ·rw[hold b (hR.lt hg hl hm)];exact h1
  ·cases o<;>first|trivial|exact absurd rfl hl
 ·rw[hold b (hR.flt hb)];exact hR.frz b o hb
 ·rw[h1]at h2;cases h2
variable{gl:Nat→AV}{K:Knob}{C:Ctx}{n:Nat}{rd:Option Nat}{l l':Kn}{h h1:Hp}{ds:List ADef}{s:St}{Q Q':PQ}{all rest:List Oper}
theorem TO.fcall(hP:POk P F gl K){g:FuncId}{x:Operand}{aas:Array Operand}{ts:Array TypeId}{d:Nat}{ty:TypeId}{pos:String}{aft:Array Edge}{gd:Option (Nat×Bool)}{first cap vs fargs:List AV}{v:AV}
  (hf:IsFn P g) (hc:PureC P F g fargs v) (hw:q6M all l ⟨some d,.call {callee:=.value x,args:=aas,argTypes:=ts},ty,pos,aft,gd⟩=some true) (hb:Nat.blt d n=true)
  (hx:evK (Ctx.of P gl K) l x=some (.fn (.func g) first cap)) (ha:evsK (Ctx.of P gl K) l aas.toList=some vs) (he:mapO (frzV 20 h) (first++vs++cap)=some fargs) (hs:scal v=true)
  (k:TO P F all rest n rd ((d,v)::l) h ds Q):TO P F all (⟨some d,.call {callee:=.value x,args:=aas,argTypes:=ts},ty,pos,aft,gd⟩::rest) n rd l h ds Q:=
 .ucall hP hw hb hx ha hf (.of_frz hc he hs) fun _ _ e=>by obtain⟨rfl,rfl⟩:=e;exact k
def FrzL(h:Hp)(args fargs:List AV):Prop:=mapO (frzV 20 h) args=some fargs
theorem FrzL.nil:FrzL h [] []:=rfl
abbrev Y2Y:=@FrzL.nil
theorem FrzL.cons{x y:AV}{r fr:List AV}(hx:frzV 20 h x=some y)(hr:FrzL h r fr):FrzL h (x::r) (y::fr):=by
 unfold FrzL mapO
 rw[hx]
 dsimp only
 rw[show mapO (frzV 20 h) r=some fr from hr]
abbrev Y2Z:=@FrzL.cons
theorem FrzL.int{q:IntKind}{i:Int}{r fr:List AV}(hr:FrzL h r fr):FrzL h (.int q i::r) (.int q i::fr):=.cons rfl hr
abbrev Y3a:=@FrzL.int
theorem z6j{k:Nat}:∀(l:List Int),mapO (mapO (frzV (k+1) h)) (l.map fun n=>[AV.int .i64 n])=some (l.map fun n=>[AV.int .i64 n])
  |[]=>rfl
  | a::l=>by
    simp only[Y1f,mapO,z6j l]
    rfl
theorem z7q:∀(l:List Int),chunks 1 l.length (l.map (AV.int .i64))=l.map fun n=>[AV.int .i64 n]
  |[]=>rfl
  | a::l=>by
    show(List.map (AV.int .i64) (a::l)).take 1::chunks 1 l.length ((List.map (AV.int .i64) (a::l)).drop 1)=_
    simp[z7q l]
theorem FrzL.ints{q c n:Nat}{e:TypeId}{x:Bool}{l:List Int}{r fr:List AV}(hg:h.get q=some (.cells e (l.map (.int .i64))))(hn:l.length=n)(hr:FrzL h r fr):FrzL h (.sl q 0 n c 1 x::r) (.isl (l.map fun n=>[AV.int .i64 n])::fr):=.cons (by
 subst hn
 show(match h.get q with
   | some (.cells _ cs)=>bif Nat.ble (Nat.add 0 (Nat.mul l.length 1)) cs.length then
     (match mapO (mapO (frzV 19 h)) (chunks 1 l.length (cs.drop 0))with|some l=>some (AV.isl l)|none=>none)else none
   |_=>none)=_
 rw[hg]
 dsimp only
 rw[Y1Q,z7q,z6j (k:=18)]
 have:Nat.ble (Nat.add 0 (Nat.mul l.length 1)) (l.map (AV.int .i64)).length=true:=Y1x (by simp)
 rw[this];rfl) hr
theorem TO.zcall(hP:POk P F gl K){g:FuncId}{x:Operand}{aas:Array Operand}{ts:Array TypeId}{d:Nat}{ty:TypeId}{pos:String}{aft:Array Edge}{gd:Option (Nat×Bool)}{first cap vs args fargs:List AV}{v:AV}
  (hf:IsFn P g) (hc:PureC P F g fargs v) (hw:q6M all l ⟨some d,.call {callee:=.value x,args:=aas,argTypes:=ts},ty,pos,aft,gd⟩=some true) (hb:Nat.blt d n=true)
  (hx:evK (Ctx.of P gl K) l x=some (.fn (.func g) first cap)) (ha:evsK (Ctx.of P gl K) l aas.toList=some vs) (he0:first++vs++cap=args) (he:FrzL h args fargs) (hs:scal v=true)
  (k:TO P F all rest n rd ((d,v)::l) h ds Q):TO P F all (⟨some d,.call {callee:=.value x,args:=aas,argTypes:=ts},ty,pos,aft,gd⟩::rest) n rd l h ds Q:=
 .fcall hP hf hc hw hb hx ha (by rw[he0];exact he) hs k
abbrev Y3b:=@TO.zcall
end Go.Ax
noncomputable section
namespace Go.Ax
variable{P:Program}{F:Nat→Option Obj}{gl:Nat→AV}{K:Knob}{C:Ctx}{n:Nat}{rd:Option Nat}{l l':Kn}{h h1:Hp}{ds:List ADef}{s:St}{Q Q':PQ}{all rest:List Oper}{T:List (FuncId×List AV×AV)}
theorem x6N{s s':St}{o:Oper}(hev:∀x∈o.op.operands,s.ev C x=s'.ev C x):fpOf C s o=fpOf C s' o:=by
 unfold fpOf
 cases hop:o.op<;>rw[hop]at hev<;>simp only[Op.operands]at hev
 case slice t x lo hi mx=>
  have h0:s.ev C x=s'.ev C x:=hev x (by simp)
  simp only[h0]
 case call c=>
  have h1:allA C s c.args.toList=allA C s' c.args.toList:=q6B fun x hx=>hev x (by
   unfold Call.operands
   cases c.callee<;>simp at hx⊢<;>simp[hx])
  simp only[h1]
 all_goals first
  |rfl
  |(simp at hev;simp only[hev];done)
theorem x6C{s s':St}{o:Oper}(hev:∀x∈o.op.operands,s.ev C x=s'.ev C x):ldOf C s o=ldOf C s' o:=by
 unfold ldOf
 cases hop:o.op<;>rw[hop]at hev<;>simp only[Op.operands]at hev
 all_goals first
  |rfl
  |(simp at hev;simp only[hev];done)
def relo(h h1:Hp):Hp:={h1 with lo:=bif Nat.ble h.lo h1.lo then h.lo else h1.lo}
def Hp.up(h:Hp):Hp:={h with lo:=h.nx}
def oneD(P:Program)(C:Ctx)(l:Kn)(h:Hp)(o:Oper):Option OpR:=
  match z5o o with
  | some (x,aas)=>(match evK C l x,evsK C l aas with
    | some (.fn (.func g) first cap),some vs=>(match C.ext g (first++vs++cap),C.fn.get g,C.orc g (first++vs++cap)with
      |none,some fn,some v=>if fn.body.isSome=true then some (.val v h.up)else none
      |none,some fn,none=>if fn.body.isSome=true then(C.prim g (first++vs++cap) h.up).map (fun x=>.val x.1 x.2)else none
      |_,_,_=>none)
    |_,_=>none)
  |none=>if knowns l o.op.operands.toList=true then opA P C nix (knSt l h.up) o else none
def runD (P:Program) (C:Ctx) (n:Nat) (all:List Oper) (ms:List Nat):List Oper→Nat→List FP→Kn→Hp→Option (Kn×Hp)
  |[],_,_,l,h=>some (l,h)
  | o :: r,i,fps,l,h=>match q6M all l o with
    |none=>none
    | some false=>(match o.dst with
      |some d=>if d<n then runD P C n all ms r (Nat.succ i) fps ((d,.tup [])::l) h else none
      |none=>runD P C n all ms r (Nat.succ i) fps l h)
    | some true=>if knowns l o.op.operands.toList=true then(match oneD P C l h o with
      | some (.val v h1)=>(match q0V ms (fpAt C (knSt l h) o i h1) fps with
        | some fps'=>(match o.dst with
          |some d=>if d<n then runD P C n all ms r (Nat.succ i) fps' ((d,v)::l) (relo h h1)else none
          |none=>runD P C n all ms r (Nat.succ i) fps' l (relo h h1))
        |none=>none)
      |_=>none)else none
theorem oneD_op{o:Oper}{v:AV}(hs:Atk s n rd l h ds)(ho:oneD P C l h o=some (.val v h1)):opA P C nix {s with h:={s.h with lo:=s.h.nx}} o=some (.val v h1):=by
 have hh:=hs.h
 unfold oneD at ho
 split at ho
 ·rename_i x aas hc
  split at ho
  case h_2=>cases ho
  rename_i g first cap vs hx has
  have hs':Atk {s with h:={s.h with lo:=s.h.nx}} n rd l h.up ds:=⟨hs.n,by rw[hh];rfl,hs.ds,hs.rd,hs.tm⟩
  unfold z5o at hc
  split at hc
  case h_2=>cases hc
  rename_i c' hop
  split at hc
  case h_2=>cases hc
  rename_i f' hcal
  cases hc
  split at ho
  case h_3=>cases ho
  ·rename_i fn v' hext hfn horc
   split at ho
   case isFalse=>cases ho
   rename_i hbody
   cases ho
   obtain⟨c,hb⟩:=Y0W.1 hbody
   unfold opA
   rw[hop]
   dsimp only
   rw[hcal]
   dsimp only
   rw[hs'.ev hx,hs'.evs has]
   unfold x0G
   dsimp only
   rw[hext]
   dsimp only
   unfold z5I
   rw[hfn];dsimp only;rw[hb];dsimp only;rw[horc,hh]
   rfl
  ·rename_i fn hext hfn horc
   split at ho
   case isFalse=>cases ho
   rename_i hbody
   obtain⟨c,hb⟩:=Y0W.1 hbody
   obtain⟨y,hy,he⟩:=Y0S.1 ho
   cases he
   have hup:({s.h with lo:=s.h.nx}:Hp)=h.up:=by rw[hh];rfl
   unfold opA
   rw[hop]
   dsimp only
   rw[hcal]
   dsimp only
   rw[hs'.ev hx,hs'.evs has]
   unfold x0G
   dsimp only
   rw[hext]
   dsimp only
   unfold z5I
   rw[hfn];dsimp only;rw[hb];dsimp only;rw[horc,hup,hy]
 ·split at ho
  case isFalse=>cases ho
  rename_i hk
  have hs':Atk {s with h:={s.h with lo:=s.h.nx}} n rd l h.up ds:=⟨hs.n,by rw[hh];rfl,hs.ds,hs.rd,hs.tm⟩
  rw[q7T (s':=knSt l h.up) hs'.h (fun x hx=>q7U hs' hk x (by simpa using hx))]
  exact ho
theorem z0G{ms:List Nat}:∀(rest:List Oper) (i:Nat) (fps:List FP) (l:Kn) (h:Hp) (s:St) (l':Kn) (h':Hp),Atk s n rd l h ds→runD P C n all ms rest i fps l h=some (l',h')→
    ∃s1,q7g P C nix all ms rest i fps s=some (.normal,s1)∧Atk s1 n rd l' h' ds
  |[],i,fps,l,h,s,l',h',hs,hr=>by cases hr;exact⟨s,rfl,hs⟩
  | o ::r,i,fps,l,h,s,l',h',hs,hr=>by
    have hh:=hs.h
    unfold runD at hr
    unfold q7g
    split at hr
    ·cases hr
    · rename_i hw
      rw[hs.want hw]
      dsimp only
      split at hr
      · rename_i d hd
        split at hr
        case isFalse=>cases hr
        rename_i hdn
        obtain⟨s2,hp,hs2⟩:=hs.put (d:=d) (Y1x hdn) (.tup []) h
        rw[hd,hh,hp]
        exact z0G r _ fps _ _ s2 l' h' hs2 hr
      · rename_i hd
        obtain⟨s2,hp,hs2⟩:=hs.put0 (.tup []) h
        rw[hd,hh,hp]
        exact z0G r _ fps _ _ s2 l' h' hs2 hr
    · rename_i hw
      rw[hs.want hw]
      dsimp only
      split at hr
      case isFalse=>cases hr
      rename_i hk
      split at hr
      case h_2=>cases hr
      rename_i v h1 ho
      rw[oneD_op hs ho]
      dsimp only
      have hev:∀x∈o.op.operands,s.ev C x=(knSt l h).ev C x:=fun x hx=>q7U hs hk x (by simpa using hx)
      have hfp:fpAt C s o i h1=fpAt C (knSt l h) o i h1:=by
        unfold fpAt
        rw[x6N hev,x6C hev,hh]
        rfl
      rw[hfp]
      split at hr
      case h_2=>cases hr
      rename_i fps' hf
      rw[hf]
      dsimp only
      have he:({nx:=h1.nx,m:=h1.m,lo:=bif Nat.ble s.h.lo h1.lo then s.h.lo else h1.lo}:Hp)=relo h h1:=by rw[hh];rfl
      split at hr
      · rename_i d hd
        split at hr
        case isFalse=>cases hr
        rename_i hdn
        obtain⟨s2,hp,hs2⟩:=hs.put (d:=d) (Y1x hdn) v (relo h h1)
        rw[hd,he,hp]
        exact z0G r _ fps' _ _ s2 l' h' hs2 hr
      · rename_i hd
        obtain⟨s2,hp,hs2⟩:=hs.put0 v (relo h h1)
        rw[hd,he,hp]
        exact z0G r _ fps' _ _ s2 l' h' hs2 hr
theorem TW.drawD(hP:POk P F gl K){id:Nat}{ops:Array Oper}(T:List (FuncId×List AV×AV))(hT:∀e∈T,PureC P F e.1 e.2.1 e.2.2)(ms:List Nat)(hms:masks [] ops.toList=ms)(hok:q9c ops.toList ops.toList ms 0 []=true){r:Option (Kn×Hp)}
    (hr:runD P (Ctx.of P gl (K.tell T)) n ops.toList ms ops.toList 0 [] l h.z=r) (hg:match r with|some (l',h')=>Q .normal l' h' ds|none=>False):TW P F (.region id ops true) n rd l h ds Q:=by
  refine TW.z fun s hs m a w fe k hrel ha hf hF=> ?_
  cases r with
  |none=>exact False.elim hg
  | some x=>
    obtain⟨l',h'⟩:=x
    subst hms
    have hP':=x4W hP hT
    obtain⟨s1,h1,h2⟩:=z0G (ms:=masks [] ops.toList) ops.toList 0 [] l h.z s l' h' hs hr
    have hd:x2O P (Ctx.of P gl (K.tell T)) nix ops.toList (masks [] ops.toList) s=some (.normal,s1):=by
      unfold x2O
      rw[hok];exact h1
    obtain⟨g1,g2,g3,g4⟩:=x5p hP' nix q0f ops s _ s1 hd
    have hh:=hs.h
    have hrd:=hs.rd
    rw[hh,hrd]at g4
    refine wpIn_mono (g4 m a w fe k id hrel ha hf fun r h3 _=>hF r h3) fun x a' w' hp=> ?_
    exact⟨_,s1,l',h',ds,hg,h2,by rw[←h2.h];rw[hh]at g1;exact g1,hp⟩
theorem q4z{h:Hp}{r:Nat}:h.up.get r=h.get r:=rfl
theorem z3o{h:Hp}:h.up.nx=h.nx:=rfl
theorem up_lo{h:Hp}:h.up.lo=h.nx:=rfl
theorem relo_z{h h1:Hp}:relo h.z h1=h1.z:=by
 unfold relo Hp.z
 rfl
attribute [simp] q4z z3o up_lo relo_z
attribute [irreducible] Hp.up relo
end Go.Ax
noncomputable section
namespace Go.Ax
variable{P:Program}{F:Nat→Option Obj}{gl:Nat→AV}{K:Knob}{C:Ctx}{n:Nat}{rd:Option Nat}{l l':Kn}{h h1:Hp}{ds:List ADef}{s:St}{Q Q':PQ}{all rest:List Oper}{T:List (FuncId×List AV×AV)}
def valQ(P:Program)(C:Ctx)(l:Kn)(h:Hp)(o:Oper):Option AV:=
  match z5o o with
  | some (x,aas)=>(match evK C l x,evsK C l aas with
    | some (.fn (.func g) first cap),some vs=>(match C.ext g (first++vs++cap),C.fn.get g,C.orc g (first++vs++cap)with
      |none,some fn,some v=>if fn.body.isSome=true then some v else none
      |_,_,_=>none)
    |_,_=>none)
  | none=>if z0B o=true then(if knowns l o.op.operands.toList=true then(match opA P C nix (knSt l h) o with
      |some (.val v _)=>some v
      |_=>none)else none)else none
def putQ(P:Program)(C:Ctx)(n:Nat)(all r:List Oper)(d:Option Nat)(l:Kn)(h:Hp):Option AV→Option Kn
  | some v=>(match d with
    |some d=>if d<n then runQ P C n all r ((d,v)::l) h else none
    |none=>runQ P C n all r l h)
  |none=>none
def x0z(P:Program)(C:Ctx)(n:Nat)(all:List Oper)(b:Bool)(o:Oper)(r:List Oper)(l:Kn)(h:Hp):Option Kn:=
 bif b then putQ P C n all r o.dst l h (valQ P C l h o)else putQ P C n all r o.dst l h (some (.tup []))
def wQ(P:Program)(C:Ctx)(n:Nat)(all:List Oper)(w:Option Bool)(o:Oper)(r:List Oper)(l:Kn)(h:Hp):Option Kn:=
 match w with
 |none=>none
 |some b=>x0z P C n all b o r l h
theorem runQ_nil:runQ P C n all [] l h=some l:=Y2V rfl rfl
theorem runQ_cons{o:Oper}{r:List Oper}:runQ P C n all (o::r) l h=wQ P C n all (q6M all l o) o r l h:=by
  rw[runQ]
  unfold wQ
  cases hw:q6M all l o with
  |none=>rfl
  | some b =>
    cases b with
    |false=>rfl
    | true =>
      show _=putQ P C n all r o.dst l h (valQ P C l h o)
      unfold valQ
      dsimp only
      cases hc:z5o o with
      | some x=>
        obtain⟨x,aas⟩:=x
        dsimp only
        generalize evK C l x=a
        generalize evsK C l aas=b
        rcases a with _|a
        ·rfl
        rcases b with _|b
        ·cases a<;>first|rfl|(rename_i f _ _;cases f<;>rfl)
        cases a<;>try rfl
        rename_i f fi ca
        cases f<;>try rfl
        rename_i g
        dsimp only
        generalize C.ext g (fi++b++ca)=a1
        generalize C.fn.get g=a2
        generalize C.orc g (fi++b++ca)=a3
        rcases a1 with _|a1<;>rcases a2 with _|a2<;>rcases a3 with _|a3<;>try rfl
        dsimp only
        split<;>rfl
      | none=>
        dsimp only
        split
        · split
          · generalize opA P C nix (knSt l h) o=a
            rcases a with _|a
            ·rfl
            cases a<;>rfl
          ·rfl
        ·rfl
theorem wQ_some{b:Bool}{o:Oper}{r:List Oper}:wQ P C n all (some b) o r l h=x0z P C n all b o r l h:=Y2V rfl rfl
theorem x6S{o:Oper}{r:List Oper}:x0z P C n all true o r l h=putQ P C n all r o.dst l h (valQ P C l h o):=Y2V rfl rfl
theorem x3Q{o:Oper}{r:List Oper}:x0z P C n all false o r l h=putQ P C n all r o.dst l h (some (.tup [])):=Y2V rfl rfl
theorem putQ_dst{r:List Oper}{d:Nat}{v:AV}:putQ P C n all r (some d) l h (some v)=if d<n then runQ P C n all r ((d,v)::l) h else none:=Y2V rfl rfl
def okQ(Q:PQ)(h:Hp)(ds:List ADef):Option Kn→Prop
 |some l'=>Q .normal l' h ds
 |none=>False
theorem TW.drawG(hP:POk P F gl K){id:Nat}{ops:Array Oper}(T:List (FuncId×List AV×AV))(hT:∀e∈T,PureC P F e.1 e.2.1 e.2.2)(hok:q9c ops.toList ops.toList (masks [] ops.toList) 0 []=true){r:Option Kn}
  (hr:runQ P (Ctx.of P gl (K.tell T)) n ops.toList ops.toList l h.z=r) (hg:okQ Q h.z ds r):TW P F (.region id ops true) n rd l h ds Q:=
 Y2L hP T hT hok hr (by cases r<;>exact hg)
abbrev Y3c:=@TW.drawG
theorem q5L{b:Bool}{o:Oper}{r:List Oper}{g:Hp}(ht:b=true→okQ Q g ds (x0z P C n all true o r l h))(hf:b=false→okQ Q g ds (x0z P C n all false o r l h)):okQ Q g ds (x0z P C n all b o r l h):=by
 cases b with
 |true=>exact ht rfl
 |false=>exact hf rfl
theorem z6v{x r:Option Kn}{g:Hp}(hr:x=r)(hg:okQ Q g ds r):okQ Q g ds x:=by subst hr;exact hg
def dFp(P:Program)(C:Ctx)(n:Nat)(all:List Oper)(ms:List Nat)(r:List Oper)(i:Nat)(d:Option Nat)(l:Kn)(v:AV)(h:Hp):Option (List FP)→Option (Kn×Hp)
  | some fps'=>(match d with
    |some d=>if d<n then runD P C n all ms r (Nat.succ i) fps' ((d,v)::l) h else none
    |none=>runD P C n all ms r (Nat.succ i) fps' l h)
  |none=>none
def dPut(P:Program)(C:Ctx)(n:Nat)(all:List Oper)(ms:List Nat)(o:Oper)(r:List Oper)(i:Nat)(fps:List FP)(l:Kn)(h:Hp):Option OpR→Option (Kn×Hp)
 |some (.val v h1)=>dFp P C n all ms r i o.dst l v (relo h h1) (q0V ms (fpAt C (knSt l h) o i h1) fps)
 |_=>none
def x0y(P:Program)(C:Ctx)(n:Nat)(all:List Oper)(ms:List Nat)(b:Bool)(o:Oper)(r:List Oper)(i:Nat)(fps:List FP)(l:Kn)(h:Hp):Option (Kn×Hp):=
 bif b then(if knowns l o.op.operands.toList=true then dPut P C n all ms o r i fps l h (oneD P C l h o)else none)else dFp P C n all ms r i o.dst l (.tup []) h (some fps)
def dW(P:Program)(C:Ctx)(n:Nat)(all:List Oper)(ms:List Nat)(w:Option Bool)(o:Oper)(r:List Oper)(i:Nat)(fps:List FP)(l:Kn)(h:Hp):Option (Kn×Hp):=
 match w with
 |none=>none
 |some b=>x0y P C n all ms b o r i fps l h
variable{ms:List Nat}{fps:List FP}{i:Nat}
theorem runD_nil:runD P C n all ms [] i fps l h=some (l,h):=Y2V rfl rfl
theorem runD_cons{o:Oper}{r:List Oper}:runD P C n all ms (o::r) i fps l h=dW P C n all ms (q6M all l o) o r i fps l h:=by
  rw[runD]
  unfold dW
  cases hw:q6M all l o with
  |none=>rfl
  | some b=>
    cases b with
    | false=>
      show _=dFp P C n all ms r i o.dst l (.tup []) h (some fps)
      unfold dFp
      dsimp only
      cases o.dst<;>rfl
    | true=>
      show _=(if knowns l o.op.operands.toList=true then dPut P C n all ms o r i fps l h (oneD P C l h o)else none)
      dsimp only
      split
      · generalize oneD P C l h o=a
        rcases a with _|a
        ·rfl
        cases a<;>rfl
      ·rfl
theorem dW_some{b:Bool}{o:Oper}{r:List Oper}:dW P C n all ms (some b) o r i fps l h=x0y P C n all ms b o r i fps l h:=Y2V rfl rfl
theorem x6R{o:Oper}{r:List Oper}:x0y P C n all ms true o r i fps l h=if knowns l o.op.operands.toList=true then dPut P C n all ms o r i fps l h (oneD P C l h o)else none:=Y2V rfl rfl
theorem x3P{o:Oper}{r:List Oper}:x0y P C n all ms false o r i fps l h=dFp P C n all ms r i o.dst l (.tup []) h (some fps):=Y2V rfl rfl
theorem dPut_val{o:Oper}{r:List Oper}{v:AV}:dPut P C n all ms o r i fps l h (some (.val v h1))=dFp P C n all ms r i o.dst l v (relo h h1) (q0V ms (fpAt C (knSt l h) o i h1) fps):=Y2V rfl rfl
theorem dFp_dst{r:List Oper}{d:Nat}{v:AV}{fps':List FP}:dFp P C n all ms r i (some d) l v h (some fps')=if d<n then runD P C n all ms r (Nat.succ i) fps' ((d,v)::l) h else none:=Y2V rfl rfl
theorem dFp_none{r:List Oper}{v:AV}{fps':List FP}:dFp P C n all ms r i none l v h (some fps')=runD P C n all ms r (Nat.succ i) fps' l h:=Y2V rfl rfl
def okD(Q:PQ)(ds:List ADef):Option (Kn×Hp)→Prop
 |some x=>Q .normal x.1 x.2 ds
 |none=>False
theorem TW.drawH(hP:POk P F gl K){id:Nat}{ops:Array Oper}(T:List (FuncId×List AV×AV))(hT:∀e∈T,PureC P F e.1 e.2.1 e.2.2)(ms:List Nat)(hms:masks [] ops.toList=ms)(hok:q9c ops.toList ops.toList ms 0 []=true){r:Option (Kn×Hp)}
  (hr:runD P (Ctx.of P gl (K.tell T)) n ops.toList ms ops.toList 0 [] l h.z=r) (hg:okD Q ds r):TW P F (.region id ops true) n rd l h ds Q:=
 TW.drawD hP T hT ms hms hok hr (by cases r<;>exact hg)
abbrev Y3d:=@TW.drawH
theorem q1g{b:Bool}{o:Oper}{r:List Oper}(ht:b=true→okD Q ds (x0y P C n all ms true o r i fps l h))(hf:b=false→okD Q ds (x0y P C n all ms false o r i fps l h)):okD Q ds (x0y P C n all ms b o r i fps l h):=by
 cases b with
 |true=>exact ht rfl
 |false=>exact hf rfl
theorem q3i{x r:Option (Kn×Hp)}(hr:x=r)(hg:okD Q ds r):okD Q ds x:=by subst hr;exact hg
attribute [simp] runQ_nil runQ_cons wQ_some x6S x3Q putQ_dst valQ z5o z0B runD_nil runD_cons dW_some x6R x3P dPut_val dFp_dst dFp_none
attribute [irreducible] x0z putQ wQ x0y dPut dFp dW
end Go.Ax
