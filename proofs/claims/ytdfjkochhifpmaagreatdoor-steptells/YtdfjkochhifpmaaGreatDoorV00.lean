import GoSem.Claims
import Derived.CallsIn
import Derived.Below
set_option linter.unusedSimpArgs false
set_option linter.unusedVariables false
noncomputable section
namespace Go.Ax
abbrev Y0c:=@if_neg
abbrev Y0d:=@Nat.add_sub_cancel
abbrev Y0e:=@if_pos
abbrev Y0f:=@Option.isSome_some
abbrev Y0g:=@Bool.true_and
abbrev Y0i:=@List.getElem?_append_left
abbrev Y0j:=@List.getElem?_append_right
abbrev Y0k:=@List.getElem?_take
abbrev Y0l:=@List.getElem?_drop
abbrev Y0m:=@List.getElem?_eq_some_iff
abbrev Y0n:=@List.getElem?_eq_getElem
abbrev Y0s:=@Array.getElem?_eq_some_iff
abbrev Y0u:=@Nat.le_refl
abbrev Y0z:=@Array.getElem?_push
abbrev Y0A:=@Nat.le_succ
abbrev Y0B:=@Nat.lt_succ_self
abbrev Y0C:=@Nat.le_trans
abbrev Y0D:=@Nat.lt_of_lt_of_le
abbrev Y0E:=@Nat.zero_le
abbrev Y0F:=@List.getElem_of_mem
abbrev Y0G:=@List.all_eq_true
abbrev Y0H:=@List.getElem_mem
abbrev Y0J:=@Nat.le_of_ble_eq_true
abbrev Y0K:=@Nat.add_assoc
abbrev Y0L:=@Nat.zero_add
abbrev Y0M:=@Array.getElem?_eq_getElem
abbrev Y0N:=@List.mem_of_getElem?
abbrev Y0O:=@List.append_assoc
abbrev Y0P:=@Nat.eq_of_beq_eq_true
abbrev Y0Q:=@Array.length_toList
abbrev Y0R:=@List.getElem?_map
abbrev Y0S:=@Option.map_eq_some_iff
abbrev Y0T:=@List.mem_cons_self
abbrev Y0U:=@List.mem_cons_of_mem
abbrev Y0V:=@cond_true
abbrev Y0W:=@Option.isSome_iff_exists
abbrev Y0X:=@List.length_append
abbrev Y0Y:=@Nat.succ_mul
abbrev Y0Z:=@getElem!_pos
abbrev Y1b:=@cond_false
abbrev Y1c:=@Int.natCast_nonneg
abbrev Y1d:=@Bool.false_and
abbrev Y1e:=@Bool.eq_iff_iff
abbrev Y1f:=@List.map_cons
abbrev Y1g:=@List.cons.injEq
abbrev Y1i:=@List.range'_succ
abbrev Y1k:=@Bool.not_true
abbrev Y1l:=@Bool.false_eq_true
abbrev Y1m:=@if_false
abbrev Y1n:=@if_true
abbrev Y1o:=@Nat.beq_refl
abbrev Y1q:=@List.length_map
abbrev Y1r:=@Nat.sub_le_sub_right
abbrev Y1s:=@Nat.sub_self
abbrev Y1t:=@Nat.zero_mul
abbrev Y1u:=@Nat.add_mul
abbrev Y1v:=@Nat.mul_le_mul_right
abbrev Y1w:=@Nat.lt_or_ge
abbrev Y1x:=@Nat.ble_eq_true_of_le
abbrev Y1y:=@List.eq_nil_of_length_eq_zero
abbrev Y1z:=@List.mem_of_mem_take
abbrev Y1A:=@Nat.add_sub_cancel_left
abbrev Y1B:=@List.take_succ_eq_append_getElem
abbrev Y1C:=@List.flatten_append
abbrev Y1D:=@List.map_map
abbrev Y1E:=@Array.getElem?_append_left
abbrev Y1F:=@Array.toList_append
abbrev Y1G:=@Array.getElem?_setIfInBounds_ne
abbrev Y1H:=@Nat.sub_zero
abbrev Y1I:=@List.getElem?_set
abbrev Y1J:=@Array.getElem?_modify
abbrev Y1K:=@congrArg
abbrev Y1M:=@Array.getD_eq_getD_getElem?
abbrev Y1N:=@Array.getElem?_eq_none
abbrev Y1P:=@Array.ext'
abbrev Y1Q:=@List.drop_zero
abbrev Y1R:=@List.length_take
abbrev Y1U:=@Array.getElem?_toList
abbrev Y1V:=@List.getElem?_eq_none
abbrev Y1X:=@Bool.and_eq_true
abbrev Y1Y:=@Option.some.inj
abbrev Y1Z:=@List.map_congr_left
abbrev Y2d:=@List.mem_singleton
abbrev Y2e:=@List.mem_append_left
abbrev Y2f:=@List.mem_append_right
abbrev Y2g:=@Bool.or_eq_true
abbrev Y2h:=@decide_eq_true_eq
abbrev Y2i:=@List.length_cons
abbrev Y2j:=@List.length_nil
abbrev Y2k:=@List.mem_cons
abbrev Y2l:=@Bool.or_eq_false_iff
abbrev Y2m:=@List.any_eq_true
abbrev Y2n:=@List.any_eq_false
abbrev Y2o:=@List.mem_range
abbrev Y2p:=@Option.getD_some
abbrev Y2q:=@Bool.not_eq_true'
abbrev Y2r:=@Array.all_eq_true_iff_forall_mem
abbrev Y2F:=@decide_eq_false
abbrev Y2G:=@decide_eq_true
abbrev Y2K:=@Nat.not_lt_zero
abbrev Y2P:=@List.flatten_cons
abbrev Y2Q:=@List.take_of_length_le
abbrev Y2R:=@Nat.mul_one
abbrev Y2S:=@List.mem_map
abbrev Y2T:=@List.ext_getElem?
abbrev Y2V:=@Eq.trans
abbrev Y3e:=@Bool.not_eq_eq_eq_not
abbrev Y3f:=@Bool.not_false
abbrev Y3g:=@List.findIdx?_eq_none_iff
abbrev Y3h:=@List.findIdx?_eq_some_iff_getElem
abbrev Y3i:=@List.not_any_eq_all_not
abbrev Y3j:=@Int.eq_ofNat_of_zero_le
abbrev Y3k:=@List.not_all_eq_any_not
abbrev Y3l:=@List.getD_eq_getElem?_getD
abbrev Y3m:=@List.map_append
abbrev Y3n:=@List.take_length
abbrev Y3o:=@List.mem_append
abbrev Y3p:=@List.all_append
abbrev Y3q:=@List.flatMap_cons
abbrev Y3s:=@decide_eq_false_iff_not
abbrev Y3t:=@Bool.not_eq_false'
abbrev Y3u:=@List.drop_eq_getElem_cons
abbrev Y3v:=@List.drop_of_length_le
abbrev Y3w:=@List.take_append_of_le_length
abbrev Y3x:=@of_decide_eq_true
abbrev Y3B:=@List.mem_iff_getElem?
abbrev Y3C:=@List.range_succ
abbrev Y3D:=@Bool.eq_false_iff
abbrev Y3E:=@List.all_eq_false
abbrev Y3G:=@List.length_filter_le
abbrev Y3H:=@List.length_range
abbrev Y3I:=@List.getElem?_replicate
abbrev Y3J:=@List.nodup_append
abbrev Y3K:=@List.idxOf_lt_length_of_mem
abbrev Y3L:=@List.take_add_one
abbrev Y3M:=@List.take_succ_cons
abbrev Y3N:=@Int.toNat_natCast
abbrev Y3O:=@List.getElem?_set_self
abbrev Y3P:=@List.getElem?_set_ne
abbrev Y3Q:=@List.getElem?_range
abbrev Y3R:=@List.getElem?_of_mem
abbrev Y3S:=@Bool.not_eq_true
abbrev Y3U:=@decide_eq_decide
abbrev Y3V:=@List.drop_succ_cons
abbrev Y3W:=@List.take_zero
inductive Tr(α:Type)where
 |e
 |n (l:Tr α) (v:Option α) (r:Tr α)
def Tr.get{α:Type}(t:Tr α):Nat→Option α:=
 Tr.rec (motive:=fun _=>Nat→Option α) (fun _=>none)
  (fun _ v _ ihl ihr i=>Nat.rec (motive:=fun _=>Option α) v (fun j _=>Nat.rec (motive:=fun _=>Option α) (ihl (Nat.div j 2)) (fun _ _=>ihr (Nat.div j 2)) (Nat.mod j 2)) i) t
def Tr.sing{α:Type}(f:Nat)(x:α):Nat→Tr α:=
 Nat.rec (motive:=fun _=>Nat→Tr α) (fun _=>.e)
  (fun _ ih i=>Nat.rec (motive:=fun _=>Tr α) (.n .e (some x) .e) (fun j _=>Nat.rec (motive:=fun _=>Tr α) (.n (ih (Nat.div j 2)) none .e) (fun _ _=>.n .e none (ih (Nat.div j 2))) (Nat.mod j 2)) i) f
def Tr.set{α:Type}(t:Tr α)(i:Nat)(x:α):Tr α:=
 Tr.rec (motive:=fun _=>Nat→Tr α) (fun i=>Tr.sing (Nat.succ i) x i)
  (fun l v r ihl ihr i=>Nat.rec (motive:=fun _=>Tr α) (.n l (some x) r) (fun j _=>Nat.rec (motive:=fun _=>Tr α) (.n (ihl (Nat.div j 2)) v r) (fun _ _=>.n l v (ihr (Nat.div j 2))) (Nat.mod j 2)) i) t i
inductive AV where
 |undef
 |bool (b:Bool)
 |int (k:IntKind) (n:Int)
 |str (s:List Nat)
 |nilptr
 |ptr (r o:Nat)
 |nilsl
 |sl (r o len cap es:Nat) (x:Bool)
 |isl (xs:List (List AV))
 |iptr (xs:List (List AV)) (i o:Nat)
 |nilmap
 |map (r:Nat)
 |fn (f:Fn) (first cap:List AV)
 |nilfn
 |iface (t:TypeId) (v:AV)
 |nilif
 |agg (cs:List AV)
 |tup (vs:List AV)
 |typ (t:TypeId)
 |raw (v:Value)
 deriving Inhabited
def isFlt:Value→Bool
 | .float _ _=>true
 | .complex _ _ _=>true
 | .slice _ _ _=>true
 |_=>false
inductive ADef where
 |fn (f:Fn) (cap args:List AV)
 |coll (r:Nat)
 |clr (t:TypeId) (x:AV)
inductive AObj where
 |cells (elem:TypeId) (cs:List AV)
 |map (es:List (AV×AV×Nat)) (clock:Nat)
 |siter (s:List Nat) (pos:Nat)
 |miter (r since:Nat) (seen:List Nat) (last:Nat)
 |loop (st:LoopState) (pending:Option Code) (tmps:Tr AV) (n:Nat) (params:List Nat) (assign body:Code) (defers:Nat)
 |defd (ds:Option (List ADef))
 |dead
structure Hp where
 nx:Nat
 m:Tr AObj
 lo:Nat
def Hp.get(h:Hp)(r:Nat):Option AObj:=h.m.get r
def Hp.put(h:Hp)(r:Nat)(o:AObj):Hp:={nx:=h.nx,m:=h.m.set r o,lo:=bif Nat.ble h.lo r then h.lo else r}
def Hp.new(h:Hp)(o:AObj):Hp:={nx:=Nat.succ h.nx,m:=h.m.set h.nx o,lo:=h.lo}
structure TI where
 desc:TypeDesc
 size:Nat
 isAgg:Bool
 zero:List AV
 zeroOk:Bool
 bytes:Nat
 comparable:Bool
 zv:AV
mutual
def ofV:Value→AV
 | .bool b=>.bool b
 | .int k n=>.int k n
 | .string s=>.str (s.data.toList.map UInt8.toNat)
 | .pointer none=>.nilptr
 | .slice none 0 0=>.nilsl
 | .map none=>.nilmap
 | .nilFunc=>.nilfn
 | .nilIface=>.nilif
 | .iface t v=>.iface t (ofV v)
 | .agg ⟨l⟩=>.agg (ofVs l)
 | .tuple ⟨l⟩=>.tup (ofVs l)
 | .func (.func f) ⟨[]⟩ ⟨[]⟩=>.fn (.func f) [] []
 | .float k b=>.raw (.float k b)
 | .complex k a b=>.raw (.complex k a b)
 |_=>.undef
def ofVs:List Value→List AV
 |[]=>[]
 |v::l=>ofV v::ofVs l
end
def z9i:TypeDesc→Bool
 | .struct _=>true
 | .array _ _=>true
 |_=>false
def mkTI(P:Program)(t:TypeId):Option TI:=
  match P.info? t,P.underlying t with
  | some i,some d=>
    let z:List AV:=match i.zero with|some v=>(match ofV v with| .agg l=>l|x=>[x])|none=>[]
    some {desc:=d,size:=i.size,isAgg:=z9i d,zero:=z,zeroOk:=i.zero.isSome&&z.length==i.size,bytes:=i.bytes,comparable:=i.comparable,zv:=match i.zero with|some v=>ofV v|none=>.undef}
  |_,_=>none
structure Knob where
 eqT:Nat→Bool
 orc:FuncId→List AV→Option AV
 ext:FuncId→List AV→Option AV
 prim:FuncId→List AV→Hp→Option (AV×Hp)
structure Ctx where
 ty:Tr (Option TI)
 fn:Tr Func
 gl:Nat→AV
 eqT:Nat→Bool
 orc:FuncId→List AV→Option AV
 ext:FuncId→List AV→Option AV
 prim:FuncId→List AV→Hp→Option (AV×Hp)
def trOf{α:Type}(f:Nat→Option α):Nat→Tr α→Tr α
 |0,t=>t
 |k+1,t=>match f k with|some x=>trOf f k (t.set k x)|none=>trOf f k t
def Ctx.of(P:Program)(gl:Nat→AV)(eqT:Knob):Ctx:=
 {ty:=trOf (fun t=>some (mkTI P t)) P.types.size .e,fn:=trOf (fun f=>P.funcs[f]?) P.funcs.size .e,gl:=gl,eqT:=eqT.eqT,orc:=eqT.orc,ext:=eqT.ext,prim:=eqT.prim}
def Ctx.ti(C:Ctx)(t:TypeId):Option TI:=match C.ty.get t with|some (some x)=>some x|_=>none
structure St where
 n:Nat
 tm:Tr AV
 h:Hp
 ds:List ADef
 rd:Option Nat
def tget(tm:Tr AV)(t:Nat):AV:=match tm.get t with|some v=>v|none=>.tup []
def St.ev(s:St)(C:Ctx):Operand→AV
 | .tmp t=>tget s.tm t
 | .const v=>ofV v
 | .global g=>C.gl g
 | .func f=>.fn (.func f) [] []
abbrev R(α:Type):=Option (α×Hp)
def cellsOf:AV→Option (List AV)
 | .undef=>none
 | .agg l=>some l
 | .tup _=>none
 |v=>some [v]
def q1f:AV→Bool
 | .undef=>false
 | .agg _=>false
 | .tup _=>false
 |_=>true
def sub(cs:List AV)(o k:Nat):Option (List AV):=
 bif Nat.ble (Nat.add o k) cs.length then some ((cs.drop o).take k)else none
def q2r(ti:TI)(cs:List AV)(o:Nat):Option AV:=
 match ti.isAgg with
 |true=>(match sub cs o ti.size with|some l=>some (.agg l)|none=>none)
 |false=>cs[o]?
def loadAt(C:Ctx)(t:TypeId)(p:AV)(h:Hp):Option AV:=
  match C.ti t with
  |none=>none
  | some ti=>match p with
    | .ptr r o=>(match h.get r with|some (.cells _ cs)=>q2r ti cs o|_=>none)
    | .iptr xs i o=>(match xs[i]? with|some cs=>q2r ti cs o|none=>none)
    |_=>none
def q1h(cs:List AV)(o:Nat)(vs:List AV):List AV:=cs.take o++(vs++cs.drop (Nat.add o vs.length))
def storeAt(C:Ctx)(t:TypeId)(p v:AV)(h:Hp):Option Hp:=
  match C.ti t,cellsOf v,p with
  | some ti,some vs,.ptr r o=>
    (match h.get r with
     | some (.cells e cs)=>
       bif Nat.beq vs.length ti.size&&(Nat.ble (Nat.add o vs.length) cs.length&&vs.all q1f)then some (h.put r (.cells e (q1h cs o vs)))else none
     |_=>none)
  |_,_,_=>none
def zeroCells(k:Nat)(z:List AV):List AV:=Nat.rec (motive:=fun _=>List AV) [] (fun _ ih=>z++ih) k
def alloc(C:Ctx)(t:TypeId)(h:Hp):R AV:=
 match C.ti t with
 |some ti=>bif ti.zeroOk then some (.ptr h.nx 0,h.new (.cells t ti.zero))else none
 |none=>none
def box(t:TypeId)(v:AV)(h:Hp):R AV:=
 match cellsOf v with
 |some cs=>some (.ptr h.nx 0,h.new (.cells t cs))
 |none=>none
def z7S(place:Nat→Option (Nat×Nat))(cells:List AV):List (Nat×AV)→Option (List AV)
  |[]=>some cells
  | (i,v)::rest=>
    match place i,cellsOf v with
    |some (o,k),some vs=>bif Nat.beq vs.length k&&Nat.ble (Nat.add o vs.length) cells.length then z7S place (q1h cells o vs) rest else none
    |_,_=>none
def build(C:Ctx)(t:TypeId)(parts:List (Nat×AV)):Option AV:=
  match C.ti t with
  |none=>none
  | some ti=>bif ti.zeroOk then
      (match ti.desc with
      | .struct fs=>bif fs.toList.all (fun f=>(C.ti f.type).isSome)then(match z7S (fun i=>match fs.toList[i]? with|some f=>(match C.ti f.type with|some x=>some (f.offset,x.size)|none=>none)|none=>none) ti.zero parts with|some l=>some (.agg l)|none=>none)else none
      | .array _ e=>(match C.ti e with
        |some x=>(match z7S (fun i=>some (Nat.mul i x.size,x.size)) ti.zero parts with|some l=>some (.agg l)|none=>none)
        |none=>none)
      |_=>none)else none
def buildSlice(C:Ctx)(t:TypeId)(len:Nat)(parts:List (Nat×AV))(h:Hp):R AV:=
  match C.ti t with
  | some {desc:=.slice e,.. }=>(match C.ti e with
    | some x=>bif x.zeroOk&&Nat.ble (Nat.mul len x.size) 1000000 then
        (match z7S (fun i=>some (Nat.mul i x.size,x.size)) (zeroCells len x.zero) parts with
         |some l=>some (.sl h.nx 0 len len x.size true,h.new (.cells e l))
         |none=>none)else none
    |none=>none)
  |_=>none
def fieldAt(C:Ctx)(t:TypeId)(p:AV)(k:Nat):Option AV:=
  match C.ti t with
  | some {desc:=.struct fs,.. }=>(match fs.toList[k]? with
    | some f=>(match C.ti f.type with
      | some x=>bif Nat.beq x.size 0 then none else
        (match p with
         | .ptr r o=>some (.ptr r (Nat.add o f.offset))
         | .iptr xs i o=>some (.iptr xs i (Nat.add o f.offset))
         |_=>none)
      |none=>none)
    |none=>none)
  |_=>none
def z4H(C:Ctx)(t:TypeId)(v:AV)(k:Nat):Option AV:=
  match C.ti t with
  | some {desc:=.struct fs,.. }=>(match fs.toList[k]?,v with
    |some f,.agg cs=>(match C.ti f.type with|some x=>q2r x cs f.offset|none=>none)
    |_,_=>none)
  |_=>none
def q6t:AV→Option Nat
 | .int _ (.ofNat n)=>some n
 |_=>none
def indexAt(C:Ctx)(t:TypeId)(x ix:AV):Option AV:=
  match C.ti t,q6t ix with
  | some ti,some i=>(match ti.desc,x with
    | .array len e,.ptr r o=>(match C.ti e with|some y=>bif Nat.blt i len then some (.ptr r (Nat.add o (Nat.mul i y.size)))else none|none=>none)
    | .array len e,.iptr xs j o=>(match C.ti e with|some y=>bif Nat.blt i len then some (.iptr xs j (Nat.add o (Nat.mul i y.size)))else none|none=>none)
    | .slice e,.sl r o len _ es _=>(match C.ti e with|some y=>bif Nat.blt i len&&Nat.beq y.size es then some (.ptr r (Nat.add o (Nat.mul i es)))else none|none=>none)
    | .slice e,.isl xs=>(match C.ti e,xs[i]? with|some y,some ch=>bif Nat.beq y.size ch.length then some (.iptr xs i 0)else none|_,_=>none)
    |_,_=>none)
  |_,_=>none
def z9f(C:Ctx)(t:TypeId)(x ix:AV):Option AV:=
  match C.ti t,q6t ix with
  | some ti,some i=>(match ti.desc,x with
    | .array len e,.agg cs=>(match C.ti e with|some y=>bif Nat.blt i len then q2r y cs (Nat.mul i y.size)else none|none=>none)
    | .string,.str s=>(match s[i]? with|some b=>some (.int .u8 (.ofNat b))|none=>none)
    |_,_=>none)
  |_,_=>none
def z0j(d:Nat):Option AV→Option Nat
 |none=>some d
 |some v=>q6t v
def q2t (C :Ctx) (t:TypeId) (x:AV) (lo hi mx:Option AV) (h:Hp):Option AV:=
  match C.ti t with
  |none=>none
  | some ti=>match ti.desc,x with
    | .string,.str s=>
      (match z0j 0 lo,z0j s.length hi,mx with
       |some l,some u,none=>bif Nat.ble l u&&Nat.ble u s.length then some (.str ((s.drop l).take (Nat.sub u l)))else none
       |_,_,_=>none)
    | .slice e,.sl r o len cap es x=>
      (match C.ti e,z0j 0 lo,z0j len hi,z0j cap mx with
       | some y,some l,some u,some m=>
         bif Nat.ble l u&&(Nat.ble u m&&(Nat.ble m cap&&Nat.beq y.size es))then
           bif mx.isSome then bif hi.isSome then some (.sl r (bif Nat.beq m l then o else Nat.add o (Nat.mul l es)) (Nat.sub u l) (Nat.sub m l) es true)else none
           else bif Nat.beq l 0 then some (.sl r o u cap es x)
           else bif Nat.blt l cap then some (.sl r (Nat.add o (Nat.mul l es)) (Nat.sub u l) (Nat.sub cap l) es x)
           else some (.isl [])
         else none
       |_,_,_,_=>none)
    | .slice e,.isl xs=>
      (match C.ti e,z0j 0 lo,z0j xs.length hi,mx with
       | some y,some l,some u,none=>
         bif Nat.ble l u&&(Nat.ble u xs.length&&xs.all (fun c=>Nat.beq c.length y.size))then some (.isl ((xs.drop l).take (Nat.sub u l)))else none
       |_,_,_,_=>none)
    | .slice e,.nilsl=>
      (match z0j 0 lo,z0j 0 hi,z0j 0 mx with
       |some 0,some 0,some 0=>(match C.ti e with|some _=>bif mx.isSome&& !hi.isSome then none else some .nilsl|none=>none)
       |_,_,_=>none)
    | .array k e,.ptr r o=>
      (match C.ti e,z0j 0 lo,z0j k hi,mx,h.get r with
       | some y,some l,some u,none,some (.cells _ cs)=>
         bif Nat.ble l u&&(Nat.ble u k&&Nat.ble (Nat.add o (Nat.mul k y.size)) cs.length)then
           some (.sl r (bif Nat.beq k l then o else Nat.add o (Nat.mul l y.size)) (Nat.sub u l) (Nat.sub k l) y.size true)else none
       |_,_,_,_,_=>none)
    |_,_=>none
def makeSlice(C:Ctx)(t:TypeId)(len cap:AV)(h:Hp):R AV:=
  match C.ti t with
  | some {desc:=.slice e,.. }=>(match C.ti e,q6t len,q6t cap with
    | some x,some l,some c=>
      bif x.zeroOk&&(Nat.ble l c&&(Nat.ble c 1000000&&Nat.ble x.bytes 1000000))then some (.sl h.nx 0 l c x.size true,h.new (.cells e (zeroCells c x.zero)))else none
    |_,_,_=>none)
  |_=>none
def q9r(k:IntKind)(n:Int):Int:=
 match k,n with
 | .i64,.ofNat m=>bif Nat.ble m 9223372036854775807 then n else k.wrap n
 | .u8,.ofNat m=>.ofNat (Nat.mod m 256)
 | .u64,.ofNat m=>.ofNat (Nat.mod m 18446744073709551616)
 |_,_=>k.wrap n
def addI(a b:Int):Int:=
 match a,b with
 | .ofNat x,.ofNat y=>.ofNat (Nat.add x y)
 |_,_=>a+b
def subI(a b:Int):Int:=
 match a,b with
 | .ofNat x,.ofNat y=>bif Nat.ble y x then .ofNat (Nat.sub x y)else a-b
 |_,_=>a-b
def mulI(a b:Int):Int:=
 match a,b with
 | .ofNat x,.ofNat y=>.ofNat (Nat.mul x y)
 |_,_=>a*b
def eqI(a b:Int):Bool:=
 match a,b with
 | .ofNat x,.ofNat y=>Nat.beq x y
 | .negSucc x,.negSucc y=>Nat.beq x y
 |_,_=>false
def ltI(a b:Int):Bool:=
 match a,b with
 | .ofNat x,.ofNat y=>Nat.blt x y
 | .negSucc x,.negSucc y=>Nat.blt y x
 | .negSucc _,.ofNat _=>true
 | .ofNat _,.negSucc _=>false
def quoI(a b:Int):Int:=
 match a,b with
 | .ofNat x,.ofNat y=>.ofNat (Nat.div x y)
 |_,_=>a.tdiv b
def remI(a b:Int):Int:=
 match a,b with
 | .ofNat x,.ofNat y=>.ofNat (Nat.mod x y)
 |_,_=>a.tmod b
def q2s:IntKind→IntKind→Bool
 | .i8,.i8=>true| .i16,.i16=>true| .i32,.i32=>true| .i64,.i64=>true
 | .u8,.u8=>true| .u16,.u16=>true| .u32,.u32=>true| .u64,.u64=>true
 |_,_=>false
def eqS:List Nat→List Nat→Bool
 |[],[]=>true
 |a::l,b::k=>Nat.beq a b&&eqS l k
 |_,_=>false
def z8Y(ih:AV→AV→Option Bool)(y:TI)(a b:List AV):Nat→Nat→Option Bool
  |0,_=>some true
  | k+1,i=>match q2r y a (Nat.mul i y.size),q2r y b (Nat.mul i y.size)with
    |some p,some q=>(match ih p q with|some true=>z8Y ih y a b k (Nat.succ i)|r=>r)
    |_,_=>none
def eqFields(C:Ctx)(ih:TypeId→AV→AV→Option Bool)(a b:List AV):List Field→Option Bool
  |[]=>some true
  | f ::l=>match C.ti f.type with
    | some y=>(match q2r y a f.offset,q2r y b f.offset with
      |some p,some q=>(match ih f.type p q with|some true=>eqFields C ih a b l|r=>r)
      |_,_=>none)
    |none=>none
def z0x(C:Ctx)(ih:TypeId→AV→AV→Option Bool)(t:TypeId)(x y:AV):Option Bool:=
  match C.ti t with
  |none=>none
  | some ti=>match ti.desc,x,y with
    | .bool,.bool a,.bool b=>some (a==b)
    | .int _,.int k a,.int j b=>bif q2s k j then some (eqI a b)else none
    | .string,.str a,.str b=>some (eqS a b)
    | .pointer _,.nilptr,.nilptr=>some true
    | .pointer _,.nilptr,.ptr _ _=>some false
    | .pointer _,.ptr _ _,.nilptr=>some false
    | .pointer e,.ptr r o,.ptr q p=>bif Nat.beq r q then(match C.ti e with|some y=>bif Nat.beq y.size 0 then none else some (Nat.beq o p)|none=>none)else none
    | .interface _,.nilif,.nilif=>some true
    | .interface _,.nilif,.iface _ _=>some false
    | .interface _,.iface _ _,.nilif=>some false
    | .interface _,.iface u a,.iface v b=>
      bif Nat.beq u v then(match C.ti u with|some w=>bif w.comparable then ih u a b else none|none=>none)else some false
    | .array len e,.agg a,.agg b=>(match C.ti e with|some y=>z8Y (ih e) y a b len 0|none=>none)
    | .struct fs,.agg a,.agg b=>bif C.eqT t then eqFields C ih a b fs.toList else none
    | .slice _,.nilsl,.nilsl=>some true
    | .slice _,.sl _ _ _ _ _ _,.nilsl=>some false
    | .slice _,.isl (_::_),.nilsl=>some false
    | .func _ _ _,.nilfn,.nilfn=>some true
    | .func _ _ _,.fn _ _ _,.nilfn=>some false
    |_,_,_=>none
def eqA(C:Ctx):Nat→TypeId→AV→AV→Option Bool
 |0,_,_,_=>none
 |d+1,t,x,y=>z0x C (eqA C d) t x y
def ltS:List Nat→List Nat→Bool
 |[],[]=>false
 |[],_::_=>true
 |_::_,[]=>false
 |a::l,b::k=>bif Nat.blt a b then true else bif Nat.beq a b then ltS l k else false
def x2R(f:Nat→Nat→Nat)(k:IntKind)(a b:Int):Option AV:=
 match k,a,b with
 | .u64,.ofNat x,.ofNat y=>bif Nat.ble x 18446744073709551615&&Nat.ble y 18446744073709551615 then some (.int k (.ofNat (f x y)))else none
 | .i64,.ofNat x,.ofNat y=>bif Nat.ble x 9223372036854775807&&Nat.ble y 9223372036854775807 then some (.int k (.ofNat (f x y)))else none
 | .u8,.ofNat x,.ofNat y=>bif Nat.ble x 255&&Nat.ble y 255 then some (.int k (.ofNat (f x y)))else none
 |_,_,_=>none
def q6p(C:Ctx)(t:TypeId)(x y:AV):Bool:=
 match x,y with
 | .agg _,.agg _=>C.eqT t
 | .nilif,.nilif=>false
 | .undef,_=>false
 |_,.undef=>false
 | .raw _,_=>false
 |_,.raw _=>false
 |_,_=>true
def q0B(C:Ctx)(op:BinOp)(t:TypeId)(x y:AV):Option AV:=
  match op,x,y with
  | .shl,.int k (.ofNat a),.int _ (.ofNat b)=>bif Nat.ble b (match k with| .u64=>64| .i64=>64|_=>8)then some (.int k (q9r k (.ofNat (Nat.mul a (Nat.pow 2 b)))))else none
  | .shl,.int _ _,.int _ _=>none
  | .shr,.int k (.ofNat a),.int _ (.ofNat b)=>bif Nat.ble b 63 then(match k with| .u64=>some (.int k (.ofNat (Nat.shiftRight a b)))| .i64=>some (.int k (.ofNat (Nat.shiftRight a b)))|_=>none)else none
  | .shr,.int _ _,.int _ _=>none
  | .eql,.raw (.float .f64 a),.raw (.float .f64 b)=>some (.bool (FloatKind.f64.format.order a b==some .eq))
  | .lss,.raw (.float .f64 a),.raw (.float .f64 b)=>some (.bool (FloatKind.f64.format.order a b==some .lt))
  | op,.int k a,.int j b=>
    bif q2s k j then
      (match op with
       | .add=>some (.int k (q9r k (addI a b)))
       | .sub=>some (.int k (q9r k (subI a b)))
       | .mul=>some (.int k (q9r k (mulI a b)))
       | .quo=>bif eqI b 0 then none else some (.int k (q9r k (quoI a b)))
       | .rem=>bif eqI b 0 then none else some (.int k (remI a b))
       | .eql=>some (.bool (eqI a b))
       | .neq=>some (.bool (!eqI a b))
       | .lss=>some (.bool (ltI a b))
       | .leq=>some (.bool (!ltI b a))
       | .gtr=>some (.bool (ltI b a))
       | .geq=>some (.bool (!ltI a b))
       | .and=>x2R Nat.land k a b
       | .or=>x2R Nat.lor k a b
       | .xor=>x2R Nat.xor k a b
       | .andNot=>x2R (fun x y=>Nat.xor x (Nat.land x y)) k a b
       |_=>none)
    else none
  | .add,.str a,.str b=>bif Nat.ble (Nat.add a.length b.length) 1000000 then some (.str (a++b))else none
  | .eql,.str a,.str b=>some (.bool (eqS a b))
  | .neq,.str a,.str b=>some (.bool (!eqS a b))
  | .lss,.str a,.str b=>some (.bool (ltS a b))
  | .eql,x,y=>bif q6p C t x y then(match eqA C 100 t x y with|some b=>some (.bool b)|none=>none)else none
  | .neq,x,y=>bif q6p C t x y then(match eqA C 100 t x y with|some b=>some (.bool (!b))|none=>none)else none
  |_,_,_=>none
def x5A(op:UnOp)(x:AV):Option AV:=
 match op,x with
 | .not,.bool b=>some (.bool (!b))
 | .neg,.int k n=>some (.int k (q9r k (subI 0 n)))
 |_,_=>none
def q8n(C:Ctx)(src dst:TypeId)(x:AV):Option AV:=
  match C.ti src,C.ti dst with
  | some a,some b=>(match a.desc,b.desc,x with
    | .int _,.int k,.int _ n=>some (.int k (q9r k n))
    | .int _,.float .f64,.int _ n=>some (.raw (.float .f64 (FloatKind.f64.nearest n)))
    | .string,.string,.str s=>some (.str s)
    |_,_,_=>none)
  |_,_=>none
def q0N(h:Hp)(es k:Nat):AV→Option (List AV)
 | .nilsl=>bif Nat.beq k 0 then some []else none
 | .sl r o len _ fs _=>bif Nat.ble k len&&Nat.beq fs es then(match h.get r with|some (.cells _ cs)=>sub cs o (Nat.mul k es)|_=>none)else none
 | .isl xs=>bif Nat.ble k xs.length&&xs.all (fun c=>Nat.beq c.length es)then some (xs.take k).flatten else none
 | .str s=>bif Nat.ble k s.length&&Nat.beq es 1 then some ((s.take k).map fun b=>.int .u8 (.ofNat b))else none
 |_=>none
def lenA:AV→Option Nat
 | .nilsl=>some 0
 | .sl _ _ len _ _ _=>some len
 | .isl xs=>some xs.length
 | .str s=>some s.length
 |_=>none
def z2r:TypeDesc→Bool
 | .slice _=>true
 | .string=>true
 |_=>false
def q0Z (C : Ctx) (st xt:TypeId) (s x:AV) (h:Hp):R AV:=
  match C.ti st,C.ti xt,lenA x with
  | some { desc := .slice e,.. },some xi,some k=>(match C.ti e,z2r xi.desc with
    |none,_=>none
    |_,false=>none
    | some y, true =>(match q0N h y.size k x with
      |none=>none
      | some new =>bif new.all q1f&&(Nat.ble y.bytes 1000000&&Nat.beq new.length (Nat.mul k y.size))then
        (match s with
        | .nilsl=>bif Nat.beq k 0 then some (.nilsl,h)else
            bif y.zeroOk&&Nat.ble k 1000000 then some (.sl h.nx 0 k k y.size false,h.new (.cells e new))else none
        | .sl r o len cap es ex=>
          (match h.get r with
           | some (.cells e' cs)=>
             bif Nat.beq es y.size&&(Nat.ble (Nat.add o (Nat.mul len es)) cs.length&&Nat.ble (Nat.add len k) 1000000)then
               bif Nat.ble (Nat.add len k) cap then
                 (bif Nat.ble (Nat.add (Nat.add o (Nat.mul len es)) new.length) cs.length then
                   some (.sl r o (Nat.add len k) cap es ex,h.put r (.cells e' (q1h cs (Nat.add o (Nat.mul len es)) new)))else none)
               else bif !y.zeroOk then none else bif ex then some (.sl h.nx 0 (Nat.add len k) (Nat.add len k) es false,h.new (.cells e ((cs.drop o).take (Nat.mul len es)++new)))
               else bif Nat.beq o 0&&Nat.ble (Nat.mul len es) cs.length then
                 (bif Nat.beq e e' then some (.sl h.nx 0 (Nat.add len k) (Nat.add len k) es false,(h.put r .dead).new (.cells e' (cs.take (Nat.mul len es)++new)))else none)
               else none
             else none
           |_=>none)
        |_=>none)else none))
  |_,_,_=>none
def q7E (C : Ctx) (dt:TypeId) (d x:AV) (h:Hp):R AV:=
  match C.ti dt,lenA d,lenA x with
  | some { desc:=.slice e,.. },some n,some k=>(match C.ti e with
    |none=>none
    | some y =>
      let c:=bif Nat.ble k n then k else n
      (match q0N h y.size c x,d with
       |some new,.nilsl=>bif Nat.beq new.length (Nat.mul c y.size)then some (.int .i64 (.ofNat c),h)else none
       | some new,.sl r o _ _ es _=>(match h.get r with
         | some (.cells e' cs)=>bif new.all q1f&&(Nat.beq es y.size&&(Nat.beq new.length (Nat.mul c y.size)&&Nat.ble (Nat.add o new.length) cs.length))then
             some (.int .i64 (.ofNat c),h.put r (.cells e' (q1h cs o new)))else none
         |_=>none)
       |_,_=>none))
  |_,_,_=>none
def q2S(C:Ctx)(t:TypeId)(x:AV)(h:Hp):Option AV:=
  match C.ti t with
  |none=>none
  | some ti=>match ti.desc,x with
    | .string,.str s=>some (.int .i64 (.ofNat s.length))
    | .array n _,_=>some (.int .i64 (.ofNat n))
    | .slice _,.str _=>none
    | .slice _,x=>(match lenA x with|some n=>some (.int .i64 (.ofNat n))|none=>none)
    | .map _ _,.nilmap=>some (.int .i64 0)
    | .map _ _,.map r=>(match h.get r with|some (.map es _)=>some (.int .i64 (.ofNat es.length))|_=>none)
    |_,_=>none
def isInts:List AV→Bool
 |[]=>true
 | .int _ _::l=>isInts l
 |_::_=>false
def z8t:TypeDesc→Bool
 | .int _=>true
 |_=>false
def z9c(C:Ctx)(l:List AV)(t:TypeId)(o:Nat→Nat):Bool:=
 match C.ti t with
 |some y=>z8t y.desc&&(q2r y l (o y.size)).isSome
 |none=>false
def z8V(C:Ctx)(kt:TypeId)(k:AV):Bool:=
  match C.ti kt,k with
  |some ti,.int _ _=>z8t ti.desc
  | some ti,.agg l=>isInts l&&(match ti.desc with
    | .array n e=>(List.range' 0 n).all fun i=>z9c C l e (fun s=>i*s)
    | .struct fs=>fs.toList.all fun f=>z9c C l f.type (fun _=>f.offset)
    |_=>false)
  |_,_=>false
def q8u:List AV→List AV→Bool
 |[],[]=>true
 | .int k a::l,.int j b::m=>q2s k j&&(eqI a b&&q8u l m)
 |_,_=>false
def x2M(C:Ctx)(kt:TypeId):AV→AV→Option Bool
  | .int k a,.int j b=>bif q2s k j then some (eqI a b)else none
  | .agg a,.agg b=>(match eqA C 100 kt (.agg a) (.agg b)with
    |some true=>bif q8u a b then some true else none
    |some false=>some false
    |none=>none)
  |_,_=>none
def z5H(C:Ctx)(kt:TypeId)(k:AV):List (AV×AV×Nat)→Nat→Option (Option (Nat×AV×Nat))
  |[],_=>some none
  | (q,v,b)::l,i=>match x2M C kt k q with
    |some true=>some (some (i,v,b))
    |some false=>z5H C kt k l (Nat.succ i)
    |none=>none
def z8U(x:AV)(h:Hp):Option (List (AV×AV×Nat)):=
 match x with
 | .nilmap=>some []
 | .map r=>(match h.get r with|some (.map es _)=>some es|_=>none)
 |_=>none
def q3b (C:Ctx)(t:TypeId)(x k:AV)(ok:Bool)(h:Hp):Option AV:=
  match C.ti t with
  | some {desc:=.map kt e,.. }=>(match C.ti kt,C.ti e with
    | some _,some y=>(match z8U x h with
      | some es=>bif z8V C kt k then(match z5H C kt k es 0 with
        |some (some (_,v,_))=>some (bif ok then .tup [v,.bool true]else v)
        |some none=>bif y.zeroOk then some (bif ok then .tup [y.zv,.bool false]else y.zv)else none
        |none=>none)else none
      |_=>none)
    |_,_=>none)
  |_=>none
def setAt{α:Type}(l:List α)(i:Nat)(x:α):List α:=l.set i x
def q9Y (C:Ctx)(t:TypeId)(x k v:AV)(h:Hp):Option Hp:=
  match C.ti t,x with
  | some {desc:=.map kt _,.. },.map r=>(match C.ti kt,h.get r with
    | some _,some (.map es clock)=>bif z8V C kt k then(match z5H C kt k es 0 with
        |some (some (i,_,b))=>some (h.put r (.map (setAt es i (k,v,b)) clock))
        |some none=>some (h.put r (.map (es++[(k,v,clock)]) (Nat.succ clock)))
        |none=>none)else none
    |_,_=>none)
  |_,_=>none
def z5l(C:Ctx)(t:TypeId)(x k:AV)(h:Hp):Option Hp:=none
inductive Ex where
 |normal
 |exit (id:Nat)
 |goto (l:Nat)
 |ret
 |panic (v:AV)
abbrev Res:=Option (Ex×St)
inductive OpR where
 |val (v:AV) (h:Hp)
 |push (d:ADef)
 |pan (v:AV) (h:Hp)
def z0A(tm:Tr AV):Nat→List AV→Tr AV
 |_,[]=>tm
 |i,v::l=>z0A (tm.set i v) (Nat.succ i) l
def q3n(C:Ctx)(s:St):List ResultVar→Option (List AV)
 |[]=>some []
 | .tmp t::l=>(match q3n C s l with|some vs=>some (tget s.tm t::vs)|none=>none)
 | .cell a t::l=>(match loadAt C t (tget s.tm a) s.h,q3n C s l with|some v,some vs=>some (v::vs)|_,_=>none)
def q0q:List AV→AV
 |[v]=>v
 |l=>.tup l
def putD(s:St)(d:Option Nat)(v:AV)(h:Hp):Option St:=
 match d with
 |none=>some {s with h:=h}
 |some t=>bif Nat.blt t s.n then some {s with tm:=s.tm.set t v,h:=h}else none
def isRec(o:Oper):Option Nat:=
 match o.op,o.guard,o.dst with
 | .call c,none,some d=>(match c.callee with| .builtin .recover=>some d|_=>none)
 |_,_,_=>none
def deferB(ih:Code→St→Res)(c:Code)(s:St):Res:=
  match c with
  | .seq (.region _ ops false) rest=>(match ops.toList with
    | [o]=>(match isRec o with
      |some d=>(match putD s (some d) .nilif s.h with|some s'=>ih rest s'|none=>none)
      |none=>ih c s)
    |_=>ih c s)
  |c=>ih c s
def x7S(C:Ctx)(ih:Code→St→Res)(f:FuncId)(args:List AV)(h:Hp):Option Hp:=none
def z8v(C:Ctx)(t:TypeId)(x:AV)(h:Hp):Option Hp:=none
def recF(C:Ctx)(ih:Code→St→Res)(v:AV)(f:FuncId)(args:List AV)(h:Hp):Option Hp:=none
def q2k(C:Ctx)(ih:Code→St→Res):List ADef→Hp→Option Hp
 |[],h=>some h
 | .coll r::l,h=>(match h.get r with|some (.defd (some []))=>q2k C ih l (h.put r (.defd none))|_=>none)
 | .fn (.func g) cap args::l,h=>(match x7S C ih g (args++cap) h with|some h'=>q2k C ih l h'|none=>none)
 | .clr t x::l,h=>(match z8v C t x h with|some h'=>q2k C ih l h'|none=>none)
 | .fn _ _ _::_,_=>none
def z5I (C : Ctx) (ih:Code→St→Res) (f:FuncId) (args:List AV) (h:Hp):Option OpR:=
  match C.fn.get f with
  | some fn =>(match fn.body with
    | some c =>match C.orc f args with
      |some v=>some (.val v h)
      | none =>match C.prim f args h with
       |some x=>some (.val x.1 x.2)
       | none =>bif Nat.ble args.length fn.ntmps then
        (match ih c {n:=fn.ntmps,tm:=z0A .e 0 args,h:=h,ds:=[],rd:=none}with
        | some (.normal,s)=>(match q2k C ih s.ds s.h with
            |some h'=>(match q3n C {s with h:=h'} fn.results.toList with|some vs=>some (.val (q0q vs) h')|none=>none)
            |none=>none)
        | some (.ret,s)=>(match q2k C ih s.ds s.h with
            |some h'=>(match q3n C {s with h:=h'} fn.results.toList with|some vs=>some (.val (q0q vs) h')|none=>none)
            |none=>none)
        | some (.panic v,s)=>(match s.ds with
          | .fn (.func g) cap dargs::ds=>(match recF C ih v g (dargs++cap) s.h with
            | some h1=>(match q2k C ih ds h1 with
              |some h'=>(match q3n C {s with h:=h'} fn.results.toList with|some vs=>some (.val (q0q vs) h')|none=>none)
              |none=>none)
            |none=>none)
          |_=>none)
        |_=>none)else none
    |none=>none)
  |none=>none
def panF(C:Ctx)(ih:Code→St→Res)(f:FuncId)(args:List AV)(h:Hp):Option (AV×Hp):=none
def z3D(tm:Tr AV):List Nat→List AV→Option (Tr AV)
 |[],[]=>some tm
 |t::ts,v::vs=>z3D (tm.set t v) ts vs
 |_,_=>none
def x7G (ih : Code→St→Res) (l:Nat) (args:List AV) (h:Hp):Option OpR:=
  match h.get l with
  | some (.loop .ready _ tm n ps asn body _)=>(match z3D tm ps args with
    |none=>none
    | some tm'=>bif ps.all (fun p=>Nat.blt p n)then
      (match ih asn {n:=n,tm:=tm',h:=h,ds:=[],rd:=some l}with
      | some (.normal,s1)=>(match s1.h.get l with
        | some (.loop .ready pd tm2 n2 ps2 as2 b2 ds2)=>
          (match ih body {s1 with h:=s1.h.put l (.loop .busy pd tm2 n2 ps2 as2 b2 ds2)}with
          | some (e,s2)=>(match s2.h.get l with
            | some (.loop .busy _ tm3 n3 ps3 as3 b3 ds3)=>(match e with
              | .normal=>some (.val (.bool true) (s2.h.put l (.loop .ready none tm3 n3 ps3 as3 b3 ds3)))
              | .ret=>some (.val (.bool false) (s2.h.put l (.loop .done (some .ret) tm3 n3 ps3 as3 b3 ds3)))
              | .exit id=>some (.val (.bool false) (s2.h.put l (.loop .done (some (.exit id)) tm3 n3 ps3 as3 b3 ds3)))
              | .goto g=>some (.val (.bool false) (s2.h.put l (.loop .done (some (.goto g)) tm3 n3 ps3 as3 b3 ds3)))
              | .panic _=>none)
            |_=>none)
          |none=>none)
        |_=>none)
      |_=>none)else none)
  |_=>none
def allA(C:Ctx)(s:St):List Operand→List AV
 |[]=>[]
 |x::l=>s.ev C x::allA C s l
def z9d (P:Program)(C:Ctx)(t:TypeId)(name:String):Option FuncId:=
  match P.info? t,C.ti t with
  | some i,some ti=>(match i.methods.find? (·.name==name)with
    | some m=>bif m.path.isEmpty then
        (match m.func,ti.desc with
        |some (f,true),.pointer _=>some f
        |some (_,false),.pointer _=>none
        |some (_,true),_=>none
        |some (f,false),_=>some f
        |none,_=>none)else none
    |none=>none)
  |_,_=>none
def z1B(want:Array (String×TypeId))(got:Array Method):Bool:=want.toList.all fun x=>got.any fun m=>m.name==x.1&&m.sig==x.2
def q4c(P:Program)(C:Ctx)(x:AV)(asserted:TypeId)(ok:Bool):Option AV:=
  match C.ti asserted with
  |none=>none
  | some ti=>
    let yes (v:AV):Option AV:=some (bif ok then .tup [v,.bool true]else v)
    let no:Option AV:=bif ok&&ti.zeroOk then some (.tup [ti.zv,.bool false])else none
    match ti.desc,x with
    | .interface want,.iface t v=>(match P.info? t with
      |some i=>bif z1B want i.methods then yes (.iface t v)else no
      |none=>none)
    |_,.nilif=>no
    | .interface _,_=>none
    |_,.iface t v=>bif Nat.beq t asserted then yes v else no
    |_,_=>none
def bytesOf:List AV→Option (List Nat)
 |[]=>some []
 | .int .u8 (.ofNat n)::l=>bif Nat.blt n 256 then(match bytesOf l with|some k=>some (n::k)|none=>none)else none
 |_::_=>none
def q4p (C:Ctx)(b:Builtin)(ts:List TypeId)(args:List AV)(h:Hp):Option OpR:=
  match b,ts,args with
  | .len,t::_,x::_=>(match q2S C t x h with|some v=>some (.val v h)|none=>none)
  | .append,st::xt::_,s::x::_=>(match q0Z C st xt s x h with|some (v,h')=>some (.val v h')|none=>none)
  | .copy,dt::_,d::x::_=>(match q7E C dt d x h with|some (v,h')=>some (.val v h')|none=>none)
  | .delete,t::_,[x,k]=>(match z5l C t x k h with|some h'=>some (.val (.tup []) h')|none=>none)
  | .complex,_,[.raw (.float .f64 a),.raw (.float .f64 b)]=>some (.val (.raw (.complex .f64 a b)) h)
  | .real,_,[.raw (.complex k a _)]=>some (.val (.raw (.float k a)) h)
  | .imag,_,[.raw (.complex k _ b)]=>some (.val (.raw (.float k b)) h)
  | .clear,t::_,x::_=>(match z8v C t x h with|some h'=>some (.val (.tup []) h')|none=>none)
  | .unsafeSliceData,_,[.nilsl]=>some (.val .nilptr h)
  | .unsafeSliceData,_,[.sl r o _ cap _ _]=>bif Nat.beq cap 0 then none else some (.val (.ptr r o) h)
  | .unsafeString,[t,_],[.nilptr,.int .i64 0]=>(match C.ti t with|some {desc:=.pointer _,.. }=>some (.val (.str []) h)|_=>none)
  | .unsafeString,[t,_],[.ptr r 0,.int .i64 (.ofNat n)]=>(match C.ti t,h.get r with
    | some {desc:=.pointer u,.. },some (.cells e cs)=>(match C.ti u,sub cs 0 n with
      | some y,some l=>(match bytesOf l with
        |some k=>bif Nat.beq e u&&(Nat.beq y.size 1&&Nat.ble n 1000000)then some (.val (.str k) (bif Nat.beq n 0 then h else h.put r .dead))else none
        |none=>none)
      |_,_=>none)
    |_,_=>none)
  | .min,_,[.int k a,.int j b,.int i c]=>bif q2s k j&&q2s k i then some (.val (.int k (bif ltI c (bif ltI b a then b else a)then c else(bif ltI b a then b else a))) h)else none
  | .min,_,[.int k a,.int j b]=>bif q2s k j then some (.val (.int k (bif ltI b a then b else a)) h)else none
  | .max,_,[.int k a,.int j b]=>bif q2s k j then some (.val (.int k (bif ltI a b then b else a)) h)else none
  |_,_,_=>none
def ov{α:Type}(f:α→OpR):Option α→Option OpR
 |some x=>some (f x)
 |none=>none
def x0G(C:Ctx)(ih:Code→St→Res)(f:AV)(args:List AV)(h:Hp):Option OpR:=
  match f with
  | .fn (.func g) first cap=>(match C.ext g (first++args++cap)with
    |some v=>some (.val v h)
    |none=>z5I C ih g (first++args++cap) h)
  | .fn (.yield l) [] []=>x7G ih l args h
  |_=>none
def x2P(C:Ctx)(a b:TypeId)(x:AV)(h:Hp):Option AV:=none
def q3I:AV→Bool
 | .ptr _ _=>true
 | .nilsl=>true
 | .sl _ _ _ _ _ _=>true
 | .isl _=>true
 |_=>false
def z5j(C:Ctx)(t:TypeId)(x:AV)(h:Hp):R AV:=none
def x0x(x:AV)(h:Hp):R AV:=none
def x7C(x:AV)(h:Hp):R AV:=none
def x7F(n:Nat):List (AV×AV×Nat)→Option (AV×AV)
 |[]=>none
 |(k,v,b)::l=>bif Nat.beq b n then some (k,v)else x7F n l
def x7R(x:AV)(h:Hp):Option AV:=
  match x with
  | .ptr r 0=>(match h.get r with
    | some (.miter q _ seen last)=>(match h.get q,seen.getLast? with
      |some (.map es clock),some b=>bif Nat.beq clock last then(match x7F b es with|some (k,v)=>some (.tup [k,v])|none=>none)else none
      |_,_=>none)
    |_=>none)
  |_=>none
def q6R(C:Ctx)(t:TypeId)(x k:AV)(h:Hp):R AV:=none
def q4e(x st v:AV)(h:Hp):Option Hp:=none
def x7U(_C:Ctx)(f:AV)(args:List AV):Option OpR:=
 match f with
 | .fn (.func g) first cap=>some (.push (.fn (.func g) cap (first++args)))
 |_=>none
def x7T:List TypeId→List AV→Option OpR
 |t::_,[x]=>some (.push (.clr t x))
 |_,_=>none
def z1v:Operand→Bool
 | .const _=>true
 |_=>false
def opA (P:Program)(C:Ctx)(ih:Code→St→Res)(s:St)(o:Oper):Option OpR:=
  let v (x:Option AV):Option OpR:=ov (fun x=>.val x s.h) x
  let w (x:R AV):Option OpR:=ov (fun x=>.val x.1 x.2) x
  match o.op with
  | .move x=>some (.val (s.ev C x) s.h)
  | .assign x=>some (.val (s.ev C x) s.h)
  | .pick c a b=>(match s.ev C c with| .bool t=>some (.val (bif t then s.ev C a else s.ev C b) s.h)|_=>none)
  | .alloc t=>w (alloc C t s.h)
  | .box t x=>w (box t (s.ev C x) s.h)
  | .build t ps=>v (build C t (ps.toList.map fun p=>(p.1,s.ev C p.2)))
  | .buildSlice t n ps=>w (buildSlice C t n (ps.toList.map fun p=>(p.1,s.ev C p.2)) s.h)
  | .load t a=>v (loadAt C t (s.ev C a) s.h)
  | .store t a x=>ov (fun h=>.val .undef h) (storeAt C t (s.ev C a) (s.ev C x) s.h)
  | .nilCheck x=>(match s.ev C x with| .ptr r o=>some (.val (.ptr r o) s.h)| .iptr xs i o=>some (.val (.iptr xs i o) s.h)| .fn (.func f) a b=>some (.val (.fn (.func f) a b) s.h)| .fn (.yield f) a b=>some (.val (.fn (.yield f) a b) s.h)|_=>none)
  | .binOp op t x y _=>(match s.ev C x,s.ev C y with
    | .nilif,.nilif=>(match op,z1v x||z1v y,C.ti t with
      | .eql,true,some ti=>(match ti.desc with| .interface _=>some (.val (.bool true) s.h)|_=>none)
      | .neq,true,some ti=>(match ti.desc with| .interface _=>some (.val (.bool false) s.h)|_=>none)
      |_,_,_=>none)
    |p,q=>v (q0B C op t p q))
  | .unOp op _ x=>v (x5A op (s.ev C x))
  | .convert a b x=>bif q3I (s.ev C x)then v (x2P C a b (s.ev C x) s.h)else v (q8n C a b (s.ev C x))
  | .range t x=>w (z5j C t (s.ev C x) s.h)
  | .next x str=>bif str then w (x0x (s.ev C x) s.h)else w (x7C (s.ev C x) s.h)
  | .entry x=>v (x7R (s.ev C x) s.h)
  | .mapEntry t m k=>w (q6R C t (s.ev C m) (s.ev C k) s.h)
  | .entryStore _ m st x=>ov (fun h=>.val .undef h) (q4e (s.ev C m) (s.ev C st) (s.ev C x) s.h)
  | .defer c=>(match c.callee with| .value f=>x7U C (s.ev C f) (allA C s c.args.toList)| .builtin .clear=>x7T c.argTypes.toList (allA C s c.args.toList)|_=>none)
  | .makeInterface t x=>(match C.ti t with|some ti=>(match ti.desc with| .interface _=>none|_=>some (.val (.iface t (s.ev C x)) s.h))|none=>none)
  | .makeFunc f a b=>(match f with| .func g=>some (.val (.fn (.func g) (allA C s a.toList) (allA C s b.toList)) s.h)|_=>none)
  | .makeMap t r=>(match (match r with|none=>some 0|some x=>q6t (s.ev C x)),C.ti t with|some _,some ti=>(match ti.desc with| .map _ _=>some (.val (.map s.h.nx) (s.h.new (.map [] 0)))|_=>none)|_,_=>none)
  | .makeSlice t l c=>w (makeSlice C t (s.ev C l) (s.ev C c) s.h)
  | .slice t x lo hi mx=>v (q2t C t (s.ev C x) (lo.map (s.ev C)) (hi.map (s.ev C)) (mx.map (s.ev C)) s.h)
  | .fieldAddr t x k=>v (fieldAt C t (s.ev C x) k)
  | .field t x k=>v (z4H C t (s.ev C x) k)
  | .indexAddr t x i=>v (indexAt C t (s.ev C x) (s.ev C i))
  | .index t x i=>v (z9f C t (s.ev C x) (s.ev C i))
  | .lookup t x k ok=>v (q3b C t (s.ev C x) (s.ev C k) ok s.h)
  | .mapUpdate t m k x=>ov (fun h=>.val .undef h) (q9Y C t (s.ev C m) (s.ev C k) (s.ev C x) s.h)
  | .insert t m k x=>ov (fun h=>.val .undef h) (q9Y C t (s.ev C m) (s.ev C k) (s.ev C x) s.h)
  | .typeAssert x _ t ok=>v (q4c P C (s.ev C x) t ok)
  | .extract x i=>(match s.ev C x with| .tup vs=>v vs[i]? |_=>none)
  | .call c=>(match c.callee with
    | .value f=>x0G C ih (s.ev C f) (allA C s c.args.toList) s.h
    | .invoke r name=>(match s.ev C r with
      | .iface t x=>(match z9d P C t name with
        |some f=>z5I C ih f (x::allA C s c.args.toList) s.h
        |none=>none)
      |_=>none)
    | .builtin b=>q4p C b c.argTypes.toList (allA C s c.args.toList) s.h)
  |_=>none
def panA(C:Ctx)(ih:Code→St→Res)(s:St)(o:Oper):Option (AV×Hp):=
  match o.op with
  | .panic x=>(match s.ev C x with| .iface t v=>some (.iface t v,s.h)|_=>none)
  | .call c=>(match c.callee with
    | .value f=>(match s.ev C f with
      | .fn (.func g) first cap=>(match C.ext g (first++allA C s c.args.toList++cap)with
        |some _=>none
        |none=>panF C ih g (first++allA C s c.args.toList++cap) s.h)
      |_=>none)
    |_=>none)
  |_=>none
def q6u(ops:List Oper)(s:St)(o:Oper):Option Bool:=
  match o.guard with
  |none=>some true
  | some (j,want)=>(match ops[j]? with
    | some p=>(match p.dst with
      |some d=>(match tget s.tm d with| .bool b=>some (b==want)| .undef=>none|_=>some false)
      |none=>some false)
    |none=>some false)
def x4M (P:Program)(C:Ctx)(ih:Code→St→Res)(ops:List Oper):List Oper→St→Res
  |[],s=>some (.normal,s)
  | o ::l,s=>match q6u ops s o with
    |none=>none
    |some false=>(match putD s o.dst (.tup []) s.h with|some s'=>x4M P C ih ops l s'|none=>none)
    | some true=>(match opA P C ih s o with
      |some (.val v h)=>(match putD s o.dst v h with|some s'=>x4M P C ih ops l s'|none=>none)
      |some (.push d)=>(match s.rd with|none=>(match putD s o.dst .undef s.h with|some s'=>x4M P C ih ops l {s' with ds:=d::s'.ds}|none=>none)|some _=>none)
      |some (.pan v h)=>some (.panic v,{s with h:=h})
      | none=>(match panA C ih s o with
        |some (v,h)=>some (.panic v,{s with h:=h})
        |none=>none))
def q0z:AV→List Nat
 | .ptr r _=>[r]
 | .sl r _ _ _ _ _=>[r]
 | .map r=>[r]
 |_=>[]
def fpOf(C:Ctx)(s:St)(o:Oper):Option (List Nat×List Nat):=
  match o.op with
  | .load _ a=>some (q0z (s.ev C a),[])
  | .store _ a _=>some (q0z (s.ev C a),q0z (s.ev C a))
  | .slice _ x _ _ _=>some (q0z (s.ev C x),[])
  | .lookup _ x _ _=>some (q0z (s.ev C x),[])
  | .mapUpdate _ x _ _=>some (q0z (s.ev C x),q0z (s.ev C x))
  | .insert _ x _ _=>some (q0z (s.ev C x),q0z (s.ev C x))
  | .mapEntry _ x _=>some (q0z (s.ev C x),q0z (s.ev C x))
  | .entryStore _ x _ _=>some (q0z (s.ev C x),q0z (s.ev C x))
  | .next x str=>bif str then some (q0z (s.ev C x),q0z (s.ev C x))else none
  | .range _ x=>some (q0z (s.ev C x),[])
  | .entry _=>none
  | .convert _ _ x=>some (q0z (s.ev C x),[])
  | .call c=>(match c.callee with
    | .builtin b=>(match b,allA C s c.args.toList with
      | .len,x::_=>some (q0z x,[])
      | .append,x::y::_=>some (q0z x++q0z y,q0z x)
      | .copy,x::y::_=>some (q0z x++q0z y,q0z x)
      | .unsafeSliceData,_=>some ([],[])
      | .unsafeString,x::_=>some (q0z x,q0z x)
      | .delete,x::_=>some (q0z x,q0z x)
      | .complex,_=>some ([],[])
      | .real,_=>some ([],[])
      | .imag,_=>some ([],[])
      | .min,_=>some ([],[])
      | .max,_=>some ([],[])
      |_,_=>none)
    |_=>none)
  |_=>some ([],[])
def overlap(a b:List Nat):Bool:=a.any fun x=>b.any fun y=>Nat.beq x y
def rawEq:Value→Value→Bool
 | .float .f64 a,.float .f64 b=>Nat.beq a b
 | .complex .f64 a b,.complex .f64 c d=>Nat.beq a c&&Nat.beq b d
 |_,_=>false
mutual
def eqV:AV→AV→Bool
 | .undef,.undef=>true
 | .raw a,.raw b=>rawEq a b
 | .bool a,.bool b=>a==b
 | .int k a,.int j b=>q2s k j&&eqI a b
 | .str a,.str b=>eqS a b
 | .nilptr,.nilptr=>true
 | .nilsl,.nilsl=>true
 | .isl a,.isl b=>x2N a b
 | .iptr a i o,.iptr b j q=>Nat.beq i j&&(Nat.beq o q&&x2N a b)
 | .nilmap,.nilmap=>true
 | .nilfn,.nilfn=>true
 | .nilif,.nilif=>true
 | .fn (.func f) a c,.fn (.func g) b d=>Nat.beq f g&&(eqVs a b&&eqVs c d)
 | .iface t a,.iface u b=>Nat.beq t u&&eqV a b
 | .agg a,.agg b=>eqVs a b
 | .tup a,.tup b=>eqVs a b
 | .ptr r o,.ptr q p=>Nat.beq r q&&Nat.beq o p
 | .sl r o l c e x,.sl q p k d f y=>Nat.beq r q&&(Nat.beq o p&&(Nat.beq l k&&(Nat.beq c d&&(Nat.beq e f&&(x==y)))))
 | .map r,.map q=>Nat.beq r q
 |_,_=>false
def eqVs:List AV→List AV→Bool
 |[],[]=>true
 |a::l,b::k=>eqV a b&&eqVs l k
 |_,_=>false
def x2N:List (List AV)→List (List AV)→Bool
 |[],[]=>true
 |a::l,b::k=>eqVs a b&&x2N l k
 |_,_=>false
end
structure FP where
 i:Nat
 rd:Option (List Nat)
 wr:Option (List Nat)
 nl:Nat
 nh:Nat
 ld:Hp→Option AV
 h0:Hp
 h1:Hp
def inR(l h r:Nat):Bool:=Nat.ble l r&&Nat.blt r h
def FP.hard(a b:FP):Bool:=
  (match b.rd with
   |none=>(match a.wr with|some []=>false|_=>true)
   |some r=>(match a.wr with|some w=>overlap w r|none=>r.any (fun x=>Nat.blt x a.nl))||r.any (inR a.nl a.nh))||
  (match b.wr with
   |some []=>false
   |some w=>(match a.rd with|some r=>overlap w r|none=>true)
   |none=>(match a.rd with|some []=>Nat.blt a.nl a.nh|_=>true))
def q1J:Option AV→Option AV→Bool
 |some x,some y=>eqV x y
 |_,_=>false
def FP.soft(a b:FP):Bool:=q1J (a.ld b.h0) (a.ld b.h1)||q1J (b.ld a.h0) (b.ld a.h1)
def FP.clash(a b:FP):Bool:=bif FP.hard a b then !FP.soft a b else false
def hard(e:Edge):Bool:=match e.ground with| .textOnly _=>false| .gcOnly _=>false|_=>true
def z2e(acc:List Nat):List Edge→Nat
 |[]=>0
 |e::l=>bif hard e then Nat.lor (Nat.lor (Nat.shiftLeft 1 e.on) (match acc[e.on]? with|some m=>m|none=>0)) (z2e acc l)else z2e acc l
def masks:List Nat→List Oper→List Nat
 |acc,[]=>acc
 |acc,o::l=>masks (acc++[z2e acc o.after.toList]) l
def q0E(ms:List Nat)(j i:Nat):Bool:=match ms[j]? with|some m=>Nat.testBit m i|none=>false
def bits:List Nat→Nat
 |[]=>0
 |t::l=>Nat.lor (Nat.shiftLeft 1 t) (bits l)
def z5h:List Operand→List Nat
 |[]=>[]
 | .tmp t::l=>t::z5h l
 |_::l=>z5h l
def z9x(ops:List Oper)(o:Oper):List Nat:=
 match o.guard with
 |some (g,_)=>(match ops[g]? with|some p=>(match p.dst with|some d=>[d]|none=>[])|none=>[])
 |none=>[]
def looks(ops:List Oper)(o:Oper):Nat:=bits (z5h o.op.operands.toList++z9x ops o)
def z0a(o:Oper):Nat:=match o.dst with|some d=>Nat.shiftLeft 1 d|none=>0
def meets(a b:Nat):Bool:= !Nat.beq (Nat.land a b) 0
def z8n(m:Nat)(lk dt:Nat):List (Nat×Nat×Nat)→Bool
 |[]=>true
 |(i,l,d)::rest=>bif meets d lk||(meets d dt||meets dt l)then(bif Nat.testBit m i then z8n m lk dt rest else false)else z8n m lk dt rest
def z2v(i:Nat):List Edge→Bool
 |[]=>true
 |e::l=>bif hard e then(bif Nat.blt e.on i then z2v i l else false)else z2v i l
def q9c(ops:List Oper):List Oper→List Nat→Nat→List (Nat×Nat×Nat)→Bool
 |o::l,m::ms,i,acc=>bif z2v i o.after.toList&&z8n m (looks ops o) (z0a o) acc then q9c ops l ms (Nat.succ i) ((i,looks ops o,z0a o)::acc)else false
 |[],[],_,_=>true
 |_,_,_,_=>false
def q0n(ms:List Nat)(b:FP):List FP→Bool
 |[]=>true
 |a::l=>bif FP.clash a b then(bif q0E ms b.i a.i then q0n ms b l else false)else q0n ms b l
def ldOf(C:Ctx)(s:St)(o:Oper):Hp→Option AV:=
 match o.op with
 | .load t a=>fun h=>loadAt C t (s.ev C a) h
 | .lookup t x k ok=>fun h=>q3b C t (s.ev C x) (s.ev C k) ok h
 |_=>fun _=>none
def fpAt(C:Ctx)(s:St)(o:Oper)(i:Nat)(h:Hp):FP:=
 match fpOf C s o with
 |some (r,w)=>{i:=i,rd:=some r,wr:=some w,nl:=s.h.nx,nh:=h.nx,ld:=ldOf C s o,h0:=s.h,h1:=h}
 |none=>{i:=i,rd:=none,wr:=bif Nat.ble s.h.nx h.lo then some []else none,nl:=s.h.nx,nh:=h.nx,ld:=fun _=>none,h0:=s.h,h1:=h}
def q0V(ms:List Nat)(f:FP)(fps:List FP):Option (List FP):=
 match f.rd,f.wr with
 |some [],some []=>bif Nat.blt f.nl f.nh then some (f::fps)else some fps
 |_,_=>bif q0n ms f fps then some (f::fps)else none
def q7g (P:Program)(C:Ctx)(ih:Code→St→Res)(ops:List Oper)(ms:List Nat):List Oper→Nat→List FP→St→Res
  |[],_,_,s=>some (.normal,s)
  | o ::l,i,fps,s=>match q6u ops s o with
    |none=>none
    |some false=>(match putD s o.dst (.tup []) s.h with|some s'=>q7g P C ih ops ms l (Nat.succ i) fps s'|none=>none)
    | some true=>(match opA P C ih {s with h:={s.h with lo:=s.h.nx}} o with
      | some (.val v h)=>(match q0V ms (fpAt C s o i h) fps with
        |some fps'=>(match putD s o.dst v {h with lo:=bif Nat.ble s.h.lo h.lo then s.h.lo else h.lo}with|some s'=>q7g P C ih ops ms l (Nat.succ i) fps' s'|none=>none)
        |none=>none)
      |_=>none)
def x2O(P:Program)(C:Ctx)(ih:Code→St→Res)(ops:List Oper)(ms:List Nat)(s:St):Res:=
 bif q9c ops ops ms 0 []then q7g P C ih ops ms ops 0 [] s else none
def x4T(ih:Code→St→Res)(body:Code):Nat→Code→St→Res
  |0,_,_=>none
  | k +1,c,s=>match ih c s with
    | some (.goto l,s')=>(match findLabel body l with
      |some rest=>x4T ih body k rest s'
      |none=>some (.goto l,s'))
    |r=>r
def callV(C:Ctx)(ih:Code→St→Res)(f:AV)(args:List AV)(h:Hp):Option OpR:=
 match f with
 | .fn (.func g) first cap=>z5I C ih g (first++args++cap) h
 |_=>none
def rangeF(C:Ctx)(ih:Code→St→Res)(g:Operand)(ps:List Nat)(asn body:Code)(s:St):Res:=
  match s.rd with
  |some _=>none
  | none =>
    let d:=s.h.nx
    let h1:=s.h.new (.defd (some []))
    let l:=h1.nx
    let h2:=h1.new (.loop .ready none s.tm s.n ps asn body d)
    match callV C ih (s.ev C g) [.fn (.yield l) [] []] h2 with
    | some (.val _ h3)=>(match h3.get l with
      | some (.loop st pend _ _ _ _ _ _)=>(match st with
        | .busy=>none
        | _=>
          let s':St:={s with h:=h3.put l .dead,ds:=.coll d::s.ds}
          (match pend with
          |none=>some (.normal,s')
          |some .ret=>some (.ret,s')
          |some (.exit id)=>some (.exit id,s')
          |some (.goto t)=>some (.goto t,s')
          |some _=>none))
      |_=>none)
    |_=>none
def step(P:Program)(C:Ctx)(ih:Code→St→Res)(k:Nat)(c:Code)(s:St):Res:=
  match c with
  | .skip=>some (.normal,s)
  | .label _=>some (.normal,s)
  | .region _ ops draw=>bif draw then x2O P C ih ops.toList (masks [] ops.toList) s else x4M P C ih ops.toList ops.toList s
  | .seq a b=>(match ih a s with
    |some (.normal,s')=>ih b s'
    |r=>r)
  | .cond x a b=>(match s.ev C x with
    | .bool true=>ih a s
    | .bool false=>ih b s
    |_=>none)
  | .block id a=>(match ih a s with
    |some (.exit j,s')=>bif Nat.beq j id then some (.normal,s')else some (.exit j,s')
    |r=>r)
  | .loop a=>(match ih a s with
    |some (.normal,s')=>ih (.loop a) s'
    |r=>r)
  | .rangeFunc g ps asn body=>rangeF C ih g ps.toList asn body s
  | .exit id=>some (.exit id,s)
  | .goto l=>some (.goto l,s)
  | .scope body=>x4T ih body k body s
  | .ret=>some (.ret,s)
  | .refuse _=>none
def exec(P:Program)(C:Ctx)(n:Nat):Code→St→Res:=
 Nat.rec (motive:=fun _=>Code→St→Res) (fun _ _=>none) (fun k ih c s=>step P C ih k c s) n
def call(P:Program)(C:Ctx)(n:Nat)(f:FuncId)(args:List AV)(h:Hp):Option OpR:=z5I C (exec P C n) f args h
end Go.Ax
namespace Go.Ax
open Go.RowKit (Below)
section tr
variable{α:Type}
theorem Tr.get_e(i:Nat):Tr.get (α:=α) .e i=none:=rfl
abbrev Y0a:=@Tr.get_e
theorem Tr.get_n(l:Tr α)(v:Option α)(r:Tr α)(i:Nat):Tr.get (.n l v r) i=if i=0 then v else if(i-1)%2=0 then l.get ((i-1)/2)else r.get ((i-1)/2):=by
  cases i with
  |zero=>rfl
  | succ j=>
    show Nat.rec (motive:=fun _=>Option α) (l.get (j/2)) (fun _ _=>r.get (j/2)) (j%2)=_
    rw[Y0c (Nat.succ_ne_zero j),Y0d]
    have:j%2=0∨j%2=1:=by omega
    rcases this with h|h<;>rw[h]<;>rfl
abbrev Y0b:=@Tr.get_n
theorem Tr.set_e(i:Nat)(x:α):Tr.set .e i x=Tr.sing (i+1) x i:=rfl
theorem Tr.sing_s(f:Nat)(x:α)(i:Nat):Tr.sing (f+1) x i=if i=0 then .n .e (some x) .e else if(i-1)%2=0 then .n (Tr.sing f x ((i-1)/2)) none .e else .n .e none (Tr.sing f x ((i-1)/2)):=by
  cases i with
  |zero=>rfl
  | succ j=>
    show Nat.rec (motive:=fun _=>Tr α) (.n (Tr.sing f x (j/2)) none .e) (fun _ _=>.n .e none (Tr.sing f x (j/2))) (j%2)=_
    rw[Y0c (Nat.succ_ne_zero j),Y0d]
    have:j%2=0∨j%2=1:=by omega
    rcases this with h|h<;>rw[h]<;>rfl
theorem Tr.set_n(l:Tr α)(v:Option α)(r:Tr α)(i:Nat)(x:α):Tr.set (.n l v r) i x=if i=0 then .n l (some x) r else if(i-1)%2=0 then .n (l.set ((i-1)/2) x) v r else .n l v (r.set ((i-1)/2) x):=by
  cases i with
  |zero=>rfl
  | succ j=>
    show Nat.rec (motive:=fun _=>Tr α) (.n (l.set (j/2) x) v r) (fun _ _=>.n l v (r.set (j/2) x)) (j%2)=_
    rw[Y0c (Nat.succ_ne_zero j),Y0d]
    have:j%2=0∨j%2=1:=by omega
    rcases this with h|h<;>rw[h]<;>rfl
theorem Tr.get_sing(x:α):∀(f i j:Nat),i<f→(Tr.sing f x i).get j=if i=j then some x else none:=by
  intro f
  induction f with
  |zero=>intro i j h;omega
  | succ f ih=>
    intro i j h
    rw[Tr.sing_s]
    by_cases hi:i=0
    · subst hi
      rw[Y0e rfl,Y0b]
      by_cases hj:j=0
      ·subst hj;rfl
      ·rw[Y0c hj,Y0c (show¬0=j from fun e=>hj e.symm),Y0a,ite_self]
    · rw [Y0c hi]
      by_cases h1:(i-1)%2=0
      · rw [Y0e h1,Y0b]
        by_cases hj:j=0
        ·subst hj;rw[Y0e rfl,Y0c hi]
        · rw[Y0c hj]
          by_cases h2:(j-1)%2=0
          · rw[Y0e h2,ih _ _ (by omega)]
            by_cases he:i=j
            ·subst he;rw[Y0e rfl,Y0e rfl]
            ·rw[Y0c he,Y0c (by omega)]
          ·rw[Y0c h2,Y0a,Y0c (fun e=>by subst e;exact h2 h1)]
      · rw [Y0c h1,Y0b]
        by_cases hj:j=0
        ·subst hj;rw[Y0e rfl,Y0c hi]
        · rw[Y0c hj]
          by_cases h2:(j-1)%2=0
          ·rw[Y0e h2,Y0a,Y0c (fun e=>by subst e;exact h1 h2)]
          · rw[Y0c h2,ih _ _ (by omega)]
            by_cases he:i=j
            ·subst he;rw[Y0e rfl,Y0e rfl]
            ·rw[Y0c he,Y0c (by omega)]
theorem Tr.get_set(t:Tr α):∀(i j:Nat) (x:α),(t.set i x).get j=if i=j then some x else t.get j:=by
  induction t with
  |e=>intro i j x;rw[Tr.set_e,Tr.get_sing x _ _ _ (by omega),Y0a]
  | n l v r ihl ihr=>
    intro i j x
    rw[Tr.set_n]
    by_cases hi:i=0
    · subst hi
      rw[Y0e rfl,Y0b,Y0b]
      by_cases hj:j=0
      ·subst hj;rfl
      ·rw[Y0c hj,Y0c hj,Y0c (show¬0=j from fun e=>hj e.symm)]
    · rw [Y0c hi]
      by_cases h1:(i-1)%2=0
      · rw [Y0e h1,Y0b,Y0b]
        by_cases hj:j=0
        ·subst hj;rw[Y0e rfl,Y0c hi,Y0e rfl]
        · rw[Y0c hj,Y0c hj]
          by_cases h2:(j-1)%2=0
          · rw[Y0e h2,Y0e h2,ihl]
            by_cases he:i=j
            ·subst he;rw[Y0e rfl,Y0e rfl]
            ·rw[Y0c he,Y0c (by omega)]
          ·rw[Y0c h2,Y0c h2,Y0c (fun e=>by subst e;exact h2 h1)]
      · rw [Y0c h1,Y0b,Y0b]
        by_cases hj:j=0
        ·subst hj;rw[Y0e rfl,Y0c hi,Y0e rfl]
        · rw[Y0c hj,Y0c hj]
          by_cases h2:(j-1)%2=0
          ·rw[Y0e h2,Y0e h2,Y0c (fun e=>by subst e;exact h1 h2)]
          · rw[Y0c h2,Y0c h2,ihr]
            by_cases he:i=j
            ·subst he;rw[Y0e rfl,Y0e rfl]
            ·rw[Y0c he,Y0c (by omega)]
theorem Tr.get_set_same(t:Tr α)(i:Nat)(x:α):(t.set i x).get i=some x:=by rw[Tr.get_set,Y0e rfl]
theorem Tr.get_set_ne(t:Tr α){i j:Nat}(x:α)(h:i≠j):(t.set i x).get j=t.get j:=by rw[Tr.get_set,Y0c h]
theorem z3u(f:Nat→Option α):∀(k:Nat) (t:Tr α) (i:Nat),(trOf f k t).get i=if i<k then(match f i with|some x=>some x|none=>t.get i)else t.get i:=by
  intro k
  induction k with
  |zero=>intro t i;rw[Y0c (by omega)];rfl
  | succ k ih=>
    intro t i
    unfold trOf
    cases hk:f k with
    | none=>
      simp only[ih]
      by_cases h:i<k
      ·rw[Y0e h,Y0e (by omega)]
      · rw[Y0c h]
        by_cases he:i=k
        ·subst he;rw[Y0e (by omega),hk]
        ·rw[Y0c (by omega)]
    | some x=>
      simp only[ih]
      by_cases h:i<k
      · rw[Y0e h,Y0e (by omega)]
        cases f i with
        |some y=>rfl
        |none=>exact Tr.get_set_ne _ _ (by omega)
      · rw[Y0c h]
        by_cases he:i=k
        ·subst he;rw[Y0e (by omega),hk,Tr.get_set_same]
        ·rw[Y0c (by omega),Tr.get_set_ne _ _ (by omega)]
end tr
theorem z0H{P:Program}{t:TypeId}{x:TI}(h:mkTI P t=some x):∃i d,P.info? t=some i∧P.underlying t=some d∧x.desc=d∧x.size=i.size∧x.isAgg=z9i d∧x.bytes=i.bytes∧x.comparable=i.comparable∧
    (x.zeroOk=true→∃v,i.zero=some v∧x.zero=(match ofV v with| .agg l=>l|y=>[y])∧x.zero.length=x.size∧x.zv=ofV v):=by
  unfold mkTI at h
  split at h
  · rename_i i d hi hd
    cases h
    refine⟨i,d,hi,hd,rfl,rfl,rfl,rfl,rfl,fun hz=> ?_⟩
    cases hv:i.zero with
    |none=>rw[hv]at hz;simp at hz
    | some v=>
      simp only[hv,Y0f,Y0g]at hz
      exact⟨v,rfl,rfl,(by simpa using hz),(by simp only)⟩
  ·cases h
theorem Ctx.of_ti{P:Program}{gl:Nat→AV}{eqT:Knob}{t:TypeId}{x:TI}(h:(Ctx.of P gl eqT).ti t=some x):mkTI P t=some x:=by
 unfold Ctx.ti at h
 split at h
 ·rename_i y hy
  cases h
  simp only[Ctx.of]at hy
  rw[z3u]at hy
  split at hy
  ·simpa using hy
  ·rw[Y0a]at hy;cases hy
 ·cases h
theorem Ctx.of_fn{P:Program}{gl:Nat→AV}{eqT:Knob}{f:FuncId}{fn:Func}(h:(Ctx.of P gl eqT).fn.get f=some fn):P.funcs[f]? =some fn:=by
 simp only[Ctx.of]at h
 rw[z3u]at h
 split at h
 ·cases hf:P.funcs[f]? with
  |none=>rw[hf]at h;rw[Y0a]at h;cases h
  |some y=>rw[hf]at h;exact h
 ·rw[Y0a]at h;cases h
structure Loc where
 loc:Nat→Option (Nat×Nat)
 fz:Nat→Option Obj
instance:CoeFun Loc fun _=>Nat→Option (Nat×Nat):=⟨Loc.loc⟩
def Fz(F:Nat→Option Obj)(m:Loc)(b:Nat)(o:Obj):Prop:=F b=some o∨m.fz b=some o
inductive FnRel(m:Loc):Fn→Fn→Prop
 |func (f:FuncId):FnRel m (.func f) (.func f)
 |yield {l cl z:Nat} (h:m l=some (cl,z)):FnRel m (.yield l) (.yield cl)
inductive VRel(P:Program)(F:Nat→Option Obj)(m:Loc):AV→Value→Prop
 |undef (v:Value):VRel P F m .undef v
 |bool (b:Bool):VRel P F m (.bool b) (.bool b)
 |int (k:IntKind) (n:Int):VRel P F m (.int k n) (.int k n)
 |str (s:ByteArray):VRel P F m (.str (s.data.toList.map UInt8.toNat)) (.string s)
 |nilptr:VRel P F m .nilptr (.pointer none)
 |ptr {r o b z:Nat} (h:m r=some (b,z)):VRel P F m (.ptr r o) (.pointer (some ⟨b,o,none⟩))
 |nilsl:VRel P F m .nilsl (.slice none 0 0)
 | sl {r o len cap es:Nat} {x:Bool} {b z ccap:Nat} (h:m r=some (b,z)) (hl:len≤cap) (hc:cap≤ccap) (hx:x=true→ccap=cap) (hz:o+ccap*es≤z):
   VRel P F m (.sl r o len cap es x) (.slice (some ⟨b,o,none⟩) len ccap)
 |isl0 (a:Option Addr) (cap:Nat):VRel P F m (.isl []) (.slice a 0 cap)
 | isl {xs:List (List AV)} {b off cap:Nat} {arr:Array Value} {e:TypeId} {fz:Nat×Nat} (es:Nat) (f:Nat→Nat→Value) (hF:Fz F m b (.cells arr e fz)) (hl:xs.length≤cap) (hes:∀c∈xs,c.length=es)
   (hf:∀i j,i<xs.length→j<es→arr[off+i*es+j]? =some (f i j)) (hc:∀(i j:Nat) (c:List AV) (x:AV),xs[i]? =some c→c[j]? =some x→VRel P F m x (f i j)):
   VRel P F m (.isl xs) (.slice (some ⟨b,off,none⟩) xs.length cap)
 | iptr {xs:List (List AV)} {i o b off:Nat} {arr:Array Value} {e:TypeId} {fz:Nat×Nat} (es:Nat) (f:Nat→Nat→Value) (hF:Fz F m b (.cells arr e fz)) (hi:i<xs.length) (hes:∀c∈xs,c.length=es)
   (hf:∀i j,i<xs.length→j<es→arr[off+i*es+j]? =some (f i j)) (hc:∀(i j:Nat) (c:List AV) (x:AV),xs[i]? =some c→c[j]? =some x→VRel P F m x (f i j)):
   VRel P F m (.iptr xs i o) (.pointer (some ⟨b,off+i*es+o,none⟩))
 |nilmap:VRel P F m .nilmap (.map none)
 |map {r b z:Nat} (h:m r=some (b,z)):VRel P F m (.map r) (.map (some b))
 | fn {f f':Fn} {l k:List AV} {a c:Array Value} (hf:FnRel m f f') (hl:l.length=a.size) (hc:∀(i:Nat) (x:AV) (y:Value),l[i]? =some x→a[i]? =some y→VRel P F m x y)
   (hk:k.length=c.size) (hd:∀(i:Nat) (x:AV) (y:Value),k[i]? =some x→c[i]? =some y→VRel P F m x y):VRel P F m (.fn f l k) (.func f' a c)
 |nilfn:VRel P F m .nilfn .nilFunc
 |iface (t:TypeId) {v:AV} {v':Value} (h:VRel P F m v v'):VRel P F m (.iface t v) (.iface t v')
 |nilif:VRel P F m .nilif .nilIface
 |agg {l:List AV} {a:Array Value} (hl:l.length=a.size) (hc:∀(i:Nat) (x:AV) (y:Value),l[i]? =some x→a[i]? =some y→VRel P F m x y):VRel P F m (.agg l) (.agg a)
 |tup {l:List AV} {a:Array Value} (hl:l.length=a.size) (hc:∀(i:Nat) (x:AV) (y:Value),l[i]? =some x→a[i]? =some y→VRel P F m x y):VRel P F m (.tup l) (.tuple a)
 |typ (t:TypeId):VRel P F m (.typ t) (.pointer (some ⟨P.globals.size,t,none⟩))
 |raw {v:Value} (h:isFlt v=true):VRel P F m (.raw v) v
structure Loc.le(m m':Loc):Prop where
 to:∀r c,m r=some c→m' r=some c
 frz:∀b o,m.fz b=some o→m'.fz b=some o
instance(m m':Loc):CoeFun (Loc.le m m') fun _=>∀r c,m r=some c→m' r=some c:=⟨Loc.le.to⟩
theorem Loc.le_refl(m:Loc):Loc.le m m:=⟨fun _ _ h=>h,fun _ _ h=>h⟩
abbrev Y0h:=@Loc.le_refl
theorem Loc.le_trans{a b c:Loc}(h:Loc.le a b)(k:Loc.le b c):Loc.le a c:=⟨fun r x hx=>k r x (h r x hx),fun b o hb=>k.frz b o (h.frz b o hb)⟩
theorem Fz.mono{F:Nat→Option Obj}{m m':Loc}(hm:Loc.le m m'){b:Nat}{o:Obj}(h:Fz F m b o):Fz F m' b o:=h.elim .inl fun h=>.inr (hm.frz b o h)
theorem FnRel.mono{m m':Loc}(hm:Loc.le m m'){f f':Fn}(h:FnRel m f f'):FnRel m' f f':=by
 cases h with
 |func f=>exact .func f
 |yield h=>exact .yield (hm _ _ h)
theorem VRel.mono{P:Program}{F:Nat→Option Obj}{m m':Loc}(hm:Loc.le m m'){x:AV}{v:Value}(h:VRel P F m x v):VRel P F m' x v:=by
 induction h with
 |undef v=>exact .undef v
 |bool b=>exact .bool b
 |int k n=>exact .int k n
 |str s=>exact .str s
 |nilptr=>exact .nilptr
 |ptr h=>exact .ptr (hm _ _ h)
 |nilsl=>exact .nilsl
 |sl h hl hc hx hz=>exact .sl (hm _ _ h) hl hc hx hz
 |isl0 a cap=>exact .isl0 a cap
 |isl es f hF hl hes hf _ ih=>exact .isl es f (hF.mono hm) hl hes hf ih
 |iptr es f hF hi hes hf _ ih=>exact .iptr es f (hF.mono hm) hi hes hf ih
 |nilmap=>exact .nilmap
 |map h=>exact .map (hm _ _ h)
 |fn hf hl _ hk _ ih1 ih2=>exact .fn (hf.mono hm) hl ih1 hk ih2
 |nilfn=>exact .nilfn
 |iface t _ ih=>exact .iface t ih
 |nilif=>exact .nilif
 |agg hl _ ih=>exact .agg hl ih
 |tup hl _ ih=>exact .tup hl ih
 |typ t=>exact .typ t
 |raw h=>exact .raw h
structure LRel(P:Program)(F:Nat→Option Obj)(m:Loc)(l:List AV)(a:List Value):Prop where
 len:l.length=a.length
 at':∀(i:Nat) (x:AV) (y:Value),l[i]? =some x→a[i]? =some y→VRel P F m x y
section lists
variable{P:Program}{F:Nat→Option Obj}{m:Loc}
theorem LRel.nil:LRel P F m [] []:=⟨rfl,fun i x y h=>by simp at h⟩
theorem LRel.cons{x:AV}{y:Value}{l:List AV}{a:List Value}(h:VRel P F m x y)(hl:LRel P F m l a):LRel P F m (x::l) (y::a):=by
 refine⟨by simp[hl.len],fun i p q hp hq=> ?_⟩
 cases i with
 |zero=>simp at hp hq;subst hp;subst hq;exact h
 |succ i=>exact hl.at' i p q (by simpa using hp) (by simpa using hq)
theorem LRel.head{x:AV}{y:Value}{l:List AV}{a:List Value}(h:LRel P F m (x::l) (y::a)):VRel P F m x y:=h.at' 0 x y rfl rfl
theorem LRel.tail{x:AV}{y:Value}{l:List AV}{a:List Value}(h:LRel P F m (x::l) (y::a)):LRel P F m l a:=
 ⟨by have:=h.len;simpa using this,fun i p q hp hq=>h.at' (i+1) p q (by simpa using hp) (by simpa using hq)⟩
theorem LRel.cases_cons{x:AV}{l:List AV}{a:List Value}(h:LRel P F m (x::l) a):∃y k,a=y::k∧VRel P F m x y∧LRel P F m l k:=by
 cases a with
 |nil=>have:=h.len;simp at this
 |cons y k=>exact⟨y,k,rfl,h.head,h.tail⟩
theorem LRel.cases_nil{a:List Value}(h:LRel P F m [] a):a= []:=by
 cases a with
 |nil=>rfl
 |cons y k=>have:=h.len;simp at this
theorem LRel.mono{m':Loc}(hm:Loc.le m m'){l:List AV}{a:List Value}(h:LRel P F m l a):LRel P F m' l a:=⟨h.len,fun i x y hx hy=>(h.at' i x y hx hy).mono hm⟩
theorem LRel.append{l l':List AV}{a a':List Value}(h:LRel P F m l a)(h':LRel P F m l' a'):LRel P F m (l++l') (a++a'):=by
 refine⟨by simp[h.len,h'.len],fun i x y hx hy=> ?_⟩
 by_cases hi:i<l.length
 ·rw[Y0i hi]at hx
  rw[Y0i (h.len▸hi)]at hy
  exact h.at' i x y hx hy
 ·rw[Y0j (by omega)]at hx
  rw[Y0j (by rw[←h.len];omega),←h.len]at hy
  exact h'.at' _ x y hx hy
theorem LRel.take{l:List AV}{a:List Value}(h:LRel P F m l a)(k:Nat):LRel P F m (l.take k) (a.take k):=by
 refine⟨by simp[h.len],fun i x y hx hy=> ?_⟩
 rw[Y0k]at hx hy
 split at hx
 ·rename_i hi;rw[Y0e hi]at hy;exact h.at' i x y hx hy
 ·cases hx
theorem LRel.drop{l:List AV}{a:List Value}(h:LRel P F m l a)(k:Nat):LRel P F m (l.drop k) (a.drop k):=by
 refine⟨by simp[h.len],fun i x y hx hy=> ?_⟩
 rw[Y0l]at hx hy
 exact h.at' _ x y hx hy
theorem LRel.get{l:List AV}{a:List Value}(h:LRel P F m l a){i:Nat}{x:AV}(hx:l[i]? =some x):∃y,a[i]? =some y∧VRel P F m x y:=by
 have hi:i<l.length:=(Y0m.1 hx).1
 have hj:i<a.length:=h.len▸hi
 exact⟨a[i],Y0n hj,h.at' i x _ hx (Y0n hj)⟩
theorem LRel.agg{l:List AV}{a:Array Value}(h:LRel P F m l a.toList):VRel P F m (.agg l) (.agg a):=
 .agg (by simpa using h.len) fun i x y hx hy=>h.at' i x y hx (by simpa using hy)
abbrev Y0o:=@LRel.agg
theorem LRel.tup{l:List AV}{a:Array Value}(h:LRel P F m l a.toList):VRel P F m (.tup l) (.tuple a):=
 .tup (by simpa using h.len) fun i x y hx hy=>h.at' i x y hx (by simpa using hy)
abbrev Y0p:=@LRel.tup
theorem LRel.of_agg{l:List AV}{v:Value}(h:VRel P F m (.agg l) v):∃a,v= .agg a∧LRel P F m l a.toList:=by
 cases h with
 |agg hl hc=>exact⟨_,rfl,by simpa using hl,fun i x y hx hy=>hc i x y hx (by simpa using hy)⟩
abbrev Y0q:=@LRel.of_agg
theorem LRel.of_tup{l:List AV}{v:Value}(h:VRel P F m (.tup l) v):∃a,v= .tuple a∧LRel P F m l a.toList:=by
 cases h with
 |tup hl hc=>exact⟨_,rfl,by simpa using hl,fun i x y hx hy=>hc i x y hx (by simpa using hy)⟩
end lists
mutual
theorem z6H(P:Program)(F:Nat→Option Obj)(m:Loc):(v:Value)→VRel P F m (ofV v) v
  | .bool b=>by simp only[ofV];exact .bool b
  | .int k n=>by simp only[ofV];exact .int k n
  | .string s=>by simp only[ofV];exact .str s
  | .pointer none=>by simp only[ofV];exact .nilptr
  | .pointer (some a)=>by simp only[ofV];exact .undef _
  | .slice none 0 0=>by simp only[ofV];exact .nilsl
  | .slice none 0 (c+1)=>by simp only[ofV];exact .undef _
  | .slice none (l+1) c=>by simp only[ofV];exact .undef _
  | .slice (some a) l c=>by simp only[ofV];exact .undef _
  | .map none=>by simp only[ofV];exact .nilmap
  | .map (some r)=>by simp only[ofV];exact .undef _
  | .nilFunc=>by simp only[ofV];exact .nilfn
  | .nilIface=>by simp only[ofV];exact .nilif
  | .iface t v=>by simp only[ofV];exact .iface t (z6H P F m v)
  | .agg ⟨l⟩=>by simp only[ofV];exact Y0o (z9q P F m l)
  | .tuple ⟨l⟩=>by simp only[ofV];exact Y0p (z9q P F m l)
  | .float k b=>by simp only[ofV];exact .raw rfl
  | .complex k a b=>by simp only[ofV];exact .raw rfl
  | .chan r=>by simp only[ofV];exact .undef _
  | .func f a b=>by
    unfold ofV
    split<;>first
      |exact .undef _
      |(rename_i h;cases h;exact .fn (.func _) rfl (fun i x y h _=>by simp at h) rfl (fun i x y h _=>by simp at h))
      |(simp_all;done)
      |skip
theorem z9q(P:Program)(F:Nat→Option Obj)(m:Loc):(l:List Value)→LRel P F m (ofVs l) l
  |[]=>by simp only[ofVs];exact .nil
  |v::l=>by simp only[ofVs];exact .cons (z6H P F m v) (z9q P F m l)
end
end Go.Ax
