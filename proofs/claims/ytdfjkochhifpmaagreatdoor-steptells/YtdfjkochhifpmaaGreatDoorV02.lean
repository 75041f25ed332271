import Derived.Test.YtdfjkochhifpmaaGreatDoorV01
import Derived.Laws.MakeOwn
import Derived.Laws.AppendOwn
set_option linter.unusedSimpArgs false
set_option linter.unusedVariables false
namespace Go.Ax
section
variable{P:Program}{F:Nat→Option Obj}{m:Loc}{gl:Nat→AV}{eqT:Knob}
theorem VRel.of_nilIface{x:AV}(h:VRel P F m x .nilIface):x= .nilif∨x= .undef:=by cases h<;>first|(rename_i h;cases h;done)|simp
theorem VRel.of_agg{x:AV}{a:Array Value}(h:VRel P F m x (.agg a)):(∃l,x= .agg l)∨x= .undef:=by cases h<;>first|(rename_i h;cases h;done)|simp
theorem q4q{op:BinOp}{t:TypeId}{ox oy:Operand}{cx cy:Value}(w:World)(h1:¬(cx= .nilIface∧cy= .nilIface))(h2:¬∃a b,cx= .agg a∧cy= .agg b):(eqGuard op t ox oy cx cy).run P w= .ok () w:=by
 unfold eqGuard
 split
 ·simp only[Y1k,Y1l,Y1m]
  split
  ·exact absurd ⟨rfl,rfl⟩ h1
  ·exact absurd ⟨_,_,rfl,rfl⟩ h2
  ·simp
 ·simp only[Y1k,Y1l,Y1m]
  split
  ·exact absurd ⟨rfl,rfl⟩ h1
  ·exact absurd ⟨_,_,rfl,rfl⟩ h2
  ·simp
 ·simp
theorem z7n(hE:EqOk P eqT){op:BinOp}{t:TypeId}{ox oy:Operand}{x y:AV}{cx cy:Value}(w:World)(hg:q6p (Ctx.of P gl eqT) t x y=true)(hx:VRel P F m x cx)(hy:VRel P F m y cy):
  (eqGuard op t ox oy cx cy).run P w= .ok () w:=by
 by_cases h1:cx= .nilIface∧cy= .nilIface
 ·obtain⟨rfl,rfl⟩:=h1
  rcases hx.of_nilIface with rfl|rfl<;>rcases hy.of_nilIface with rfl|rfl<;>simp[q6p]at hg
 ·by_cases h2:∃a b,cx= .agg a∧cy= .agg b
  ·obtain⟨a,b,rfl,rfl⟩:=h2
   rcases hx.of_agg with⟨l,rfl⟩|rfl<;>rcases hy.of_agg with⟨k,rfl⟩|rfl<;>simp[q6p]at hg
   exact run_eqGuard_agg w op t ox oy a b (hE.guard t hg)
  ·exact q4q w h1 h2
theorem z6k(k:IntKind)(x y:Nat)(f:BitVec k.bits→BitVec k.bits→BitVec k.bits)(g:Nat→Nat→Nat)(hx:x<2^k.bits)(hy:y<2^k.bits)(hf:∀a b:BitVec k.bits,(f a b).toNat=g a.toNat b.toNat):
  (f (BitVec.ofInt k.bits (Int.ofNat x)) (BitVec.ofInt k.bits (Int.ofNat y))).toNat=g x y:=by
 rw[hf]
 have e:∀n,n<2^k.bits→(BitVec.ofInt k.bits (Int.ofNat n)).toNat=n:=fun n hn=>by
  simp only[BitVec.toNat_ofInt]
  show((n:Int)%((2^k.bits:Nat):Int)).toNat=n
  rw[Int.emod_eq_of_lt (Y1c n) (by omega)]
  simp
 rw[e x hx,e y hy]
theorem x7a{f:Nat→Nat→Nat}{k:IntKind}{a b:Int}{v:AV}(h:x2R f k a b=some v):∃x y,a= .ofNat x∧b= .ofNat y∧v= .int k (.ofNat (f x y))∧
  ((k= .u64∧x<2^64∧y<2^64)∨(k= .i64∧x<2^63∧y<2^63)∨(k= .u8∧x<2^8∧y<2^8)):=by
 unfold x2R at h
 split at h
 ·obtain⟨hc,rfl⟩:=q0i h
  obtain⟨h1,h2⟩:=q0p hc
  have h1:=Y0J h1
  have h2:=Y0J h2
  exact⟨_,_,rfl,rfl,rfl,.inl ⟨rfl,by omega,by omega⟩⟩
 ·obtain⟨hc,rfl⟩:=q0i h
  obtain⟨h1,h2⟩:=q0p hc
  have h1:=Y0J h1
  have h2:=Y0J h2
  exact⟨_,_,rfl,rfl,rfl,.inr (.inl ⟨rfl,by omega,by omega⟩)⟩
 ·obtain⟨hc,rfl⟩:=q0i h
  obtain⟨h1,h2⟩:=q0p hc
  have h1:=Y0J h1
  have h2:=Y0J h2
  exact⟨_,_,rfl,rfl,rfl,.inr (.inr ⟨rfl,by omega,by omega⟩)⟩
 ·cases h
theorem x5I{k:IntKind}{n:Nat}(h:(k= .u64∧n<2^64)∨(k= .i64∧n<2^63)∨(k= .u8∧n<2^8)):k.wrap (n:Int)=n:=by
 rcases h with⟨rfl,h⟩|⟨rfl,h⟩|⟨rfl,h⟩
 ·simp only[IntKind.wrap,IntKind.bits,IntKind.signed,Y1d]
  show(n:Int)%18446744073709551616=n
  omega
 ·exact Go.IntWalk.i64_in _ (by omega)
 ·simp only[IntKind.wrap,IntKind.bits,IntKind.signed,Y1d]
  show(n:Int)%256=n
  omega
theorem q9D{op:BinOp}{f:Nat→Nat→Nat}(hop:(op= .and∧f=Nat.land)∨(op= .or∧f=Nat.lor)∨(op= .xor∧f=Nat.xor)∨(op= .andNot∧f=fun x y=>Nat.xor x (Nat.land x y))){k:IntKind}{a b:Int}{v:AV}(h:x2R f k a b=some v)(w:World):
  ∃cv,(Op.intBits op k a b).run P w= .ok cv w∧VRel P F m v cv:=by
 obtain⟨x,y,rfl,rfl,rfl,hk⟩:=x7a h
 have hb:x<2^k.bits∧y<2^k.bits:=by
  rcases hk with⟨rfl,h1,h2⟩|⟨rfl,h1,h2⟩|⟨rfl,h1,h2⟩<;>simp only[IntKind.bits]<;>omega
 have hr:k.wrap ((f x y:Nat):Int)=(f x y:Nat):=by
  apply x5I
  rcases hop with⟨_,rfl⟩|⟨_,rfl⟩|⟨_,rfl⟩|⟨_,rfl⟩<;>rcases hk with⟨rfl,h1,h2⟩|⟨rfl,h1,h2⟩|⟨rfl,h1,h2⟩
  ·exact .inl ⟨rfl,Nat.and_lt_two_pow _ h2⟩
  ·exact .inr (.inl ⟨rfl,Nat.and_lt_two_pow _ h2⟩)
  ·exact .inr (.inr ⟨rfl,Nat.and_lt_two_pow _ h2⟩)
  ·exact .inl ⟨rfl,Nat.or_lt_two_pow h1 h2⟩
  ·exact .inr (.inl ⟨rfl,Nat.or_lt_two_pow h1 h2⟩)
  ·exact .inr (.inr ⟨rfl,Nat.or_lt_two_pow h1 h2⟩)
  ·exact .inl ⟨rfl,Nat.xor_lt_two_pow h1 h2⟩
  ·exact .inr (.inl ⟨rfl,Nat.xor_lt_two_pow h1 h2⟩)
  ·exact .inr (.inr ⟨rfl,Nat.xor_lt_two_pow h1 h2⟩)
  ·exact .inl ⟨rfl,Nat.xor_lt_two_pow h1 (Nat.and_lt_two_pow _ h2)⟩
  ·exact .inr (.inl ⟨rfl,Nat.xor_lt_two_pow h1 (Nat.and_lt_two_pow _ h2)⟩)
  ·exact .inr (.inr ⟨rfl,Nat.xor_lt_two_pow h1 (Nat.and_lt_two_pow _ h2)⟩)
 refine⟨.int k (.ofNat (f x y)),?_,.int _ _⟩
 rcases hop with⟨rfl,rfl⟩|⟨rfl,rfl⟩|⟨rfl,rfl⟩|⟨rfl,rfl⟩
 ·have:=z6k k x y (fun a b=>a&&&b) Nat.land hb.1 hb.2 (fun a b=>BitVec.toNat_and a b)
  simp only[Op.intBits,Sem.run_pure,this,hr];rfl
 ·have:=z6k k x y (fun a b=>a|||b) Nat.lor hb.1 hb.2 (fun a b=>BitVec.toNat_or a b)
  simp only[Op.intBits,Sem.run_pure,this,hr];rfl
 ·have:=z6k k x y (fun a b=>a^^^b) Nat.xor hb.1 hb.2 (fun a b=>BitVec.toNat_xor a b)
  simp only[Op.intBits,Sem.run_pure,this,hr];rfl
 ·have:=z6k k x y (fun a b=>a&&& ~~~b) (fun x y=>Nat.xor x (Nat.land x y)) hb.1 hb.2 (fun a b=>by
   have e:a&&& ~~~b=a^^^(a&&&b):=by
    ext i hi
    simp only[BitVec.getElem_and,BitVec.getElem_not,BitVec.getElem_xor]
    cases a[i]<;>cases b[i]<;>rfl
   rw[e,BitVec.toNat_xor,BitVec.toNat_and];rfl)
  simp only[Op.intBits,Sem.run_pure,this,hr];rfl
theorem shr_rel{k:IntKind}{a b:Nat}(hb:b≤63)(hk:k= .u64∨k= .i64)(j:IntKind)(w:World):(Op.shift .shr k (.ofNat a) j (.ofNat b)).run P w= .ok (.int k (.ofNat (Nat.shiftRight a b))) w:=by
 have h0:¬((Int.ofNat b:Int)<0):=by have:=Y1c b;show¬((b:Int)<0);omega
 have hm:min ((Int.ofNat b:Int).toNat) k.bits=b:=by
  rcases hk with rfl|rfl<;>simp only[IntKind.bits]<;>show min b 64=b<;>omega
 have e:(Int.ofNat a:Int).fdiv (2^b)=Int.ofNat (a>>>b):=by
  rw[Nat.shiftRight_eq_div_pow,Int.fdiv_eq_ediv_of_nonneg _ (Int.pow_nonneg (by decide))]
  show(a:Int)/2^b=((a/2^b:Nat):Int)
  simp
 simp only[Op.shift,h0,Y1m,hm,Sem.run_pure,e]
 rfl
theorem shl_rel{k:IntKind}{a b:Nat}(hb:b≤k.bits)(j:IntKind)(w:World):(Op.shift .shl k (.ofNat a) j (.ofNat b)).run P w= .ok (.int k (q9r k (.ofNat (Nat.mul a (Nat.pow 2 b))))) w:=by
 have h0:¬((Int.ofNat b:Int)<0):=by have:=Y1c b;show¬((b:Int)<0);omega
 have hm:min ((Int.ofNat b:Int).toNat) k.bits=b:=by show min b k.bits=b;omega
 have e:(Int.ofNat a:Int)*2^b=Int.ofNat (Nat.mul a (Nat.pow 2 b)):=by
  show(a:Int)*2^b=((a*2^b:Nat):Int)
  simp
 simp only[Op.shift,h0,Y1m,hm,Sem.run_pure,e,q8t]
theorem z0M{t:TypeId}{cx cy:Value}(hI:¬∃k a j b,cx= .int k a∧cy= .int j b)(hS:¬∃a b,cx= .string a∧cy= .string b)(hF:∀k b,cx≠ .float k b)(hC:∀k a b,cx≠ .complex k a b):
  binOp .eql t cx cy=(do pure (.bool (←Op.equal t cx cy)))∧binOp .neq t cx cy=(do pure (.bool (!(←Op.equal t cx cy)))):=by
 constructor
 ·unfold binOp
  split<;>first
   |(exact absurd ⟨_,_,_,_,rfl,rfl⟩ hI)
   |(exact absurd ⟨_,_,rfl,rfl⟩ hS)
   |(exact absurd rfl (hF _ _))
   |(exact absurd rfl (hC _ _ _))
   |rfl
   |(simp_all;done)
 ·unfold binOp
  split<;>first
   |(exact absurd ⟨_,_,_,_,rfl,rfl⟩ hI)
   |(exact absurd ⟨_,_,rfl,rfl⟩ hS)
   |(exact absurd rfl (hF _ _))
   |(exact absurd rfl (hC _ _ _))
   |rfl
   |(simp_all;done)
theorem VRel.of_int{x:AV}{k:IntKind}{n:Int}(h:VRel P F m x (.int k n)):x= .int k n∨x= .undef:=by cases h<;>first|(rename_i h;cases h;done)|simp
theorem VRel.of_string{x:AV}{s:ByteArray}(h:VRel P F m x (.string s)):(∃l,x= .str l)∨x= .undef:=by cases h<;>first|(rename_i h;cases h;done)|simp
theorem VRel.of_float{x:AV}{k:FloatKind}{b:Nat}(h:VRel P F m x (.float k b)):x= .raw (.float k b)∨x= .undef:=by cases h<;>simp
theorem VRel.of_complex{x:AV}{k:FloatKind}{a b:Nat}(h:VRel P F m x (.complex k a b)):x= .raw (.complex k a b)∨x= .undef:=by cases h<;>simp
theorem VRel.raw_inv{u v:Value}(h:VRel P F m (.raw u) v):v=u:=by cases h;rfl
theorem z5x{C:Ctx}{t:TypeId}{x y:AV}(h:q6p C t x y=true):x≠ .undef∧y≠ .undef∧(∀v,x≠ .raw v):=by
 refine⟨?_,?_,?_⟩
 ·rintro rfl;cases y<;>cases h
 ·rintro rfl;cases x<;>cases h
 ·rintro v rfl;cases y<;>cases h
theorem x7e(hE:EqOk P eqT){op:BinOp}{t:TypeId}{ox oy:Operand}{x y v:AV}{cx cy:Value}{w:World}(h:q0B (Ctx.of P gl eqT) op t x y=some v)(hx:VRel P F m x cx)(hy:VRel P F m y cy):
    ∃cv,(do eqGuard op t ox oy cx cy;binOp op t cx cy:Sem Value).run P w= .ok cv w∧VRel P F m v cv:=by
  have intNo:∀{op:BinOp} {k n} {cy:Value},(eqGuard op t ox oy (.int k n) cy).run P w= .ok () w:=fun{_ _ _ _}=>q4q w (fun h=>nomatch h.1) (fun⟨_,_,h,_⟩=>nomatch h)
  have floNo:∀{op:BinOp} {k n} {cy:Value},(eqGuard op t ox oy (.float k n) cy).run P w= .ok () w:=fun{_ _ _ _}=>q4q w (fun h=>nomatch h.1) (fun⟨_,_,h,_⟩=>nomatch h)
  have strNo:∀{op:BinOp} {s} {cy:Value},(eqGuard op t ox oy (.string s) cy).run P w= .ok () w:=fun{_ _ _}=>q4q w (fun h=>nomatch h.1) (fun⟨_,_,h,_⟩=>nomatch h)
  unfold q0B at h
  split at h
  · rename_i k a j b
    obtain rfl:=hx.int_inv;obtain rfl:=hy.int_inv
    obtain⟨hb,rfl⟩:=q0i h
    have hb:=Y0J hb
    refine⟨_,?_,.int _ _⟩
    simp only[Sem.run_bind,intNo,Result.andThen_ok,binOp]
    exact shl_rel (by cases k<;>simp only[IntKind.bits]<;>simp only at hb<;>omega) j w
  ·cases h
  · rename_i k a j b
    obtain rfl:=hx.int_inv;obtain rfl:=hy.int_inv
    cases hb:Nat.ble b 63 with
    |false=>rw[hb]at h;cases h
    | true=>
      rw[hb]at h
      have hb:=Y0J hb
      have hk:(k= .u64∨k= .i64)∧v= .int k (.ofNat (Nat.shiftRight a b)):=by
        cases k<;>simp only[Y0V]at h<;>first|(cases h;done)|(cases h;exact⟨.inl rfl,rfl⟩)|(cases h;exact⟨.inr rfl,rfl⟩)
      obtain⟨hk,rfl⟩:=hk
      refine⟨_,?_,.int _ _⟩
      simp only[Sem.run_bind,intNo,Result.andThen_ok,binOp]
      exact shr_rel hb hk j w
  ·cases h
  · rename_i a b
    obtain rfl:=hx.raw_inv;obtain rfl:=hy.raw_inv
    cases h
    exact⟨.bool (FloatKind.f64.format.order a b==some .eq),by simp only[Sem.run_bind,floNo,Result.andThen_ok];simp[binOp,Op.floatCmp],.bool _⟩
  · rename_i a b
    obtain rfl:=hx.raw_inv;obtain rfl:=hy.raw_inv
    cases h
    exact⟨.bool (FloatKind.f64.format.order a b==some .lt),by simp only[Sem.run_bind,floNo,Result.andThen_ok];simp[binOp,Op.floatCmp],.bool _⟩
  · rename_i op k a j b hn1 hn2 hn3 hn4
    obtain rfl:=hx.int_inv;obtain rfl:=hy.int_inv
    cases hk:q2s k j with
    |false=>rw[hk]at h;cases h
    | true=>
      rw[hk]at h
      obtain rfl:=q5w hk
      simp only[Y0V]at h
      split at h
      ·cases h;exact⟨.int k (k.wrap (a+b)),by simp only[Sem.run_bind,intNo,Result.andThen_ok];simp[binOp,Op.intArith],by rw[q8t,x3c];exact .int _ _⟩
      ·cases h;exact⟨.int k (k.wrap (a-b)),by simp only[Sem.run_bind,intNo,Result.andThen_ok];simp[binOp,Op.intArith],by rw[q8t,z9a];exact .int _ _⟩
      ·cases h;exact⟨.int k (k.wrap (a*b)),by simp only[Sem.run_bind,intNo,Result.andThen_ok];simp[binOp,Op.intArith],by rw[q8t,x8h];exact .int _ _⟩
      · have hb:eqI b 0=false∧some (AV.int k (q9r k (quoI a b)))=some v:=by
          cases hz:eqI b 0 with
          |true=>rw[hz]at h;cases h
          |false=>rw[hz]at h;exact⟨rfl,h⟩
        obtain⟨hz,he⟩:=hb
        cases he
        have hz:b≠0:=fun e=>by rw[q7R,e]at hz;simp at hz
        exact⟨.int k (k.wrap (a.tdiv b)),by simp only[Sem.run_bind,intNo,Result.andThen_ok];simp[binOp,Op.intDiv,hz],by rw[q8t,quoI_eq];exact .int _ _⟩
      · have hb:eqI b 0=false∧some (AV.int k (remI a b))=some v:=by
          cases hz:eqI b 0 with
          |true=>rw[hz]at h;cases h
          |false=>rw[hz]at h;exact⟨rfl,h⟩
        obtain⟨hz,he⟩:=hb
        cases he
        have hz:b≠0:=fun e=>by rw[q7R,e]at hz;simp at hz
        exact⟨.int k (a.tmod b),by simp only[Sem.run_bind,intNo,Result.andThen_ok];simp[binOp,Op.intDiv,hz],by rw[remI_eq];exact .int _ _⟩
      ·cases h;exact⟨.bool (a==b),by simp only[Sem.run_bind,intNo,Result.andThen_ok];simp[binOp,Op.intCmp],by rw[q7R];exact .bool _⟩
      ·cases h;exact⟨.bool (!(a==b)),by simp only[Sem.run_bind,intNo,Result.andThen_ok];simp[binOp,Op.intCmp,bne],by rw[q7R];exact .bool _⟩
      ·cases h;exact⟨.bool (decide (a<b)),by simp only[Sem.run_bind,intNo,Result.andThen_ok];simp[binOp,Op.intCmp],by rw[q7P];exact .bool _⟩
      · cases h;exact⟨.bool (decide (a≤b)),by simp only[Sem.run_bind,intNo,Result.andThen_ok];simp[binOp,Op.intCmp],by
          have:(!ltI b a)=decide (a≤b):=by rw[q7P,Y1e];simp
          rw[this];exact .bool _⟩
      ·cases h;exact⟨.bool (decide (b<a)),by simp only[Sem.run_bind,intNo,Result.andThen_ok];simp[binOp,Op.intCmp],by rw[q7P];exact .bool _⟩
      · cases h;exact⟨.bool (decide (b≤a)),by simp only[Sem.run_bind,intNo,Result.andThen_ok];simp[binOp,Op.intCmp],by
          have:(!ltI a b)=decide (b≤a):=by rw[q7P,Y1e];simp
          rw[this];exact .bool _⟩
      · obtain⟨cv,hr,hv⟩:=q9D (P:=P) (F:=F) (m:=m) (.inl ⟨rfl,rfl⟩) h w
        exact⟨cv,by simp only[Sem.run_bind,intNo,Result.andThen_ok];simpa [binOp]using hr,hv⟩
      · obtain⟨cv,hr,hv⟩:=q9D (P:=P) (F:=F) (m:=m) (.inr (.inl ⟨rfl,rfl⟩)) h w
        exact⟨cv,by simp only[Sem.run_bind,intNo,Result.andThen_ok];simpa [binOp]using hr,hv⟩
      · obtain⟨cv,hr,hv⟩:=q9D (P:=P) (F:=F) (m:=m) (.inr (.inr (.inl ⟨rfl,rfl⟩))) h w
        exact⟨cv,by simp only[Sem.run_bind,intNo,Result.andThen_ok];simpa [binOp]using hr,hv⟩
      · obtain⟨cv,hr,hv⟩:=q9D (P:=P) (F:=F) (m:=m) (.inr (.inr (.inr ⟨rfl,rfl⟩))) h w
        exact⟨cv,by simp only[Sem.run_bind,intNo,Result.andThen_ok];simpa [binOp]using hr,hv⟩
      ·cases h
  · obtain⟨s1,rfl,rfl⟩:=hx.str_inv;obtain⟨s2,rfl,rfl⟩:=hy.str_inv
    obtain⟨hc,rfl⟩:=q0i h
    have hc:=Y0J hc
    simp only[Y1q,Y0Q,Nat.add_eq]at hc
    have hc:s1.size+s2.size≤1000000:=hc
    have hno:¬(((s1.size+s2.size:Nat):Int)>IntKind.i64.max):=by
      have:(IntKind.i64.max:Int)=9223372036854775807:=by decide
      omega
    refine⟨.string (s1++s2),?_,?_⟩
    · simp only[Sem.run_bind,strNo,Result.andThen_ok]
      simp only[binOp,Op.stringOp,hno,Y1m,Sem.run_pure]
    · have:s1.data.toList.map UInt8.toNat++s2.data.toList.map UInt8.toNat=(s1++s2).data.toList.map UInt8.toNat:=by simp[ByteArray.data_append]
      rw[this];exact .str _
  · obtain⟨s1,rfl,rfl⟩:=hx.str_inv;obtain⟨s2,rfl,rfl⟩:=hy.str_inv;cases h
    exact⟨.bool (s1.toList==s2.toList),by simp only[Sem.run_bind,strNo,Result.andThen_ok];simp[binOp,Op.stringOp],by rw[z6V];exact .bool _⟩
  · obtain⟨s1,rfl,rfl⟩:=hx.str_inv;obtain⟨s2,rfl,rfl⟩:=hy.str_inv;cases h
    exact⟨.bool (!(s1.toList==s2.toList)),by simp only[Sem.run_bind,strNo,Result.andThen_ok];simp[binOp,Op.stringOp],by rw[z6V];exact .bool _⟩
  · obtain⟨s1,rfl,rfl⟩:=hx.str_inv;obtain⟨s2,rfl,rfl⟩:=hy.str_inv;cases h
    exact⟨.bool (Op.bytesLess s1.toList s2.toList),by simp only[Sem.run_bind,strNo,Result.andThen_ok];simp[binOp,Op.stringOp],by rw[x1g,←ByteArray.toList_eq,←ByteArray.toList_eq];exact .bool _⟩
  · rename_i px py hn1 hn2
    cases hg:q6p (Ctx.of P gl eqT) t x y with
    |false=>rw[hg]at h;cases h
    | true=>
      rw[hg]at h
      simp only[Y0V]at h
      split at h
      case h_2=>cases h
      rename_i b hb
      cases h
      have he:=z9h hE w 100 t x y b hb cx cy hx hy 10000 (by decide)
      refine⟨.bool b,?_,.bool _⟩
      obtain⟨u1,u2,u3⟩:=z5x hg
      have hI:¬∃k a j b,cx= .int k a∧cy= .int j b:=by
        rintro⟨k,a,j,b,rfl,rfl⟩
        rcases hx.of_int with rfl|rfl
        · rcases hy.of_int with rfl|rfl
          ·exact hn1 _ _ _ _ rfl rfl
          ·exact u2 rfl
        ·exact u1 rfl
      have hS:¬∃a b,cx= .string a∧cy= .string b:=by
        rintro⟨a,b,rfl,rfl⟩
        rcases hx.of_string with⟨l,rfl⟩|rfl
        · rcases hy.of_string with⟨k,rfl⟩|rfl
          ·exact hn2 _ _ rfl rfl
          ·exact u2 rfl
        ·exact u1 rfl
      have hbo:=z0M (t:=t) hI hS (fun k b e=>by subst e;exact hx.of_float.elim (u3 _) u1) (fun k a b e=>by subst e;exact hx.of_complex.elim (u3 _) u1)
      rw[hbo.1]
      simp[Sem.run_bind,z7n hE w hg hx hy,Result.andThen_ok,Op.equal,Op.maxDepth,he]
  · rename_i px py hn1 hn2
    cases hg:q6p (Ctx.of P gl eqT) t x y with
    |false=>rw[hg]at h;cases h
    | true=>
      rw[hg]at h
      simp only[Y0V]at h
      split at h
      case h_2=>cases h
      rename_i b hb
      cases h
      have he:=z9h hE w 100 t x y b hb cx cy hx hy 10000 (by decide)
      refine⟨.bool (!b),?_,.bool _⟩
      obtain⟨u1,u2,u3⟩:=z5x hg
      have hI:¬∃k a j b,cx= .int k a∧cy= .int j b:=by
        rintro⟨k,a,j,b,rfl,rfl⟩
        rcases hx.of_int with rfl|rfl
        · rcases hy.of_int with rfl|rfl
          ·exact hn1 _ _ _ _ rfl rfl
          ·exact u2 rfl
        ·exact u1 rfl
      have hS:¬∃a b,cx= .string a∧cy= .string b:=by
        rintro⟨a,b,rfl,rfl⟩
        rcases hx.of_string with⟨l,rfl⟩|rfl
        · rcases hy.of_string with⟨k,rfl⟩|rfl
          ·exact hn2 _ _ rfl rfl
          ·exact u2 rfl
        ·exact u1 rfl
      have hbo:=z0M (t:=t) hI hS (fun k b e=>by subst e;exact hx.of_float.elim (u3 _) u1) (fun k a b e=>by subst e;exact hx.of_complex.elim (u3 _) u1)
      rw[hbo.2]
      simp[Sem.run_bind,z7n hE w hg hx hy,Result.andThen_ok,Op.equal,Op.maxDepth,he]
  ·cases h
theorem x8D{op:UnOp}{x v:AV}{cx:Value}{w:World}(h:x5A op x=some v)(hx:VRel P F m x cx):∃cv,(Op.unary op cx).run P w= .ok cv w∧VRel P F m v cv:=by
 unfold x5A at h
 split at h
 ·obtain rfl:=hx.bool_inv;cases h
  exact⟨_,by simp[Op.unary],.bool _⟩
 ·rename_i k n
  obtain rfl:=hx.int_inv;cases h
  exact⟨.int k (k.wrap (0-n)),by simp[Op.unary,Op.intArith],by rw[q8t,z9a];exact .int _ _⟩
 ·cases h
theorem convA_rel{a b:TypeId}{x v:AV}{cx:Value}{w:World}(h:q8n (Ctx.of P gl eqT) a b x=some v)(hx:VRel P F m x cx):∃cv,(convert a b cx).run P w= .ok cv w∧VRel P F m v cv:=by
 unfold q8n at h
 split at h
 case h_2=>cases h
 rename_i ta tb ha hb
 have h1:=q1w ha w
 have h2:=q1w hb w
 split at h
 ·rename_i j k j' n hd1 hd2
  rw[hd1]at h1;rw[hd2]at h2
  obtain rfl:=hx.int_inv;cases h
  exact⟨.int k (k.wrap n),by simp[convert,h1,h2,Conv.intToInt,Result.andThen],by rw[q8t];exact .int _ _⟩
 ·rename_i j j' n hd1 hd2
  rw[hd1]at h1;rw[hd2]at h2
  obtain rfl:=hx.int_inv;cases h
  exact⟨.float .f64 (FloatKind.f64.nearest n),by simp[convert,h1,h2,Conv.intToFloat,Result.andThen],.raw rfl⟩
 ·rename_i s hd1 hd2
  rw[hd1]at h1;rw[hd2]at h2
  obtain⟨s1,rfl,rfl⟩:=hx.str_inv;cases h
  exact⟨.string s1,by simp[convert,h1,h2,Result.andThen],.str _⟩
 ·cases h
end
end Go.Ax
namespace Go.Ax
section
variable{P:Program}{F:Nat→Option Obj}{m:Loc}{gl:Nat→AV}{eqT:Knob}
def OVRel(P:Program)(F:Nat→Option Obj)(m:Loc):Option AV→Option Value→Prop
 |none,none=>True
 |some x,some y=>VRel P F m x y
 |_,_=>False
theorem OVRel.map{s:St}{ρ:Operand→Value}{C:Ctx}(hev:∀x,VRel P F m (s.ev C x) (ρ x))(o:Option Operand):OVRel P F m (o.map (s.ev C)) (o.map ρ):=by
 cases o with
 |none=>trivial
 |some x=>exact hev x
theorem q5O{v:AV}{cv:Value}{n y:Nat}{code:BoundsCode}{w:World}(h:q6t v=some n)(hv:VRel P F m v cv)(hle:n≤y):(Instr.sliceBound cv y code).run P w= .ok n w:=by
 obtain⟨k,rfl⟩:=q9h h
 obtain rfl:=hv.int_inv
 simp[Instr.sliceBound,asIntOf,hle]
theorem q9k{b:Bool}{len cap l u:Nat}{lo hi:Option AV}{clo chi:Option Value}{w:World}(h1:z0j 0 lo=some l)(h2:z0j len hi=some u)(o1:OVRel P F m lo clo)(o2:OVRel P F m hi chi)(hlu:l≤u)(hu:u≤cap):
    (Instr.sliceBounds b len cap clo chi none).run P w= .ok (l,u,cap) w:=by
  unfold Instr.sliceBounds
  cases hi with
  | none=>
    cases chi with
    |some _=>exact o2.elim
    | none=>
      cases h2
      cases lo with
      | none=>
        cases clo with
        |some _=>exact o1.elim
        |none=>cases h1;simp
      | some x=>
        cases clo with
        |none=>exact o1.elim
        |some c=>simp[q5O (P:=P) h1 o1 hlu,Result.andThen]
  | some y=>
    cases chi with
    |none=>exact o2.elim
    | some d=>
      cases lo with
      | none=>
        cases clo with
        |some _=>exact o1.elim
        |none=>cases h1;simp[q5O (P:=P) h2 o2 hu,Result.andThen]
      | some x=>
        cases clo with
        |none=>exact o1.elim
        |some c=>simp[q5O (P:=P) h2 o2 hu,q5O (P:=P) h1 o1 hlu,Result.andThen]
theorem z7t{b:Bool}{len cap l u k:Nat}{lo:Option AV}{y z:AV}{clo:Option Value}{d e:Value}{w:World}(h1:z0j 0 lo=some l)(h2:q6t y=some u)(h3:q6t z=some k)(o1:OVRel P F m lo clo)(o2:VRel P F m y d)(o3:VRel P F m z e)
    (hlu:l≤u) (hu:u≤k) (hk:k≤cap):(Instr.sliceBounds b len cap clo (some d) (some e)).run P w= .ok (l,u,k) w:=by
  unfold Instr.sliceBounds
  cases lo with
  | none=>
    cases clo with
    |some _=>exact o1.elim
    |none=>cases h1;simp[q5O (P:=P) h3 o3 hk,q5O (P:=P) h2 o2 hu,Result.andThen]
  | some x=>
    cases clo with
    |none=>exact o1.elim
    |some c=>simp[q5O (P:=P) h3 o3 hk,q5O (P:=P) h2 o2 hu,q5O (P:=P) h1 o1 hlu,Result.andThen]
theorem q7G{t:TypeId}{d:TypeDesc}(hu:∀w,(underlying t).run P w= .ok d w)(hd:∀n e,d≠ .array n e)(x:Value)(lo hi mx:Option Value)(w:World):(Instr.sliceAt t x lo hi mx).run P w=(Instr.slice t x lo hi mx).run P w:=by
 unfold Instr.sliceAt
 simp only[Sem.run_bind,hu,Result.andThen_ok]
theorem x3n {t : TypeId} {x v:AV} {lo hi mx:Option AV} {cx:Value} {clo chi cmx:Option Value} {h:Hp} {w:World} (hs:q2t (Ctx.of P gl eqT) t x lo hi mx h=some v) (hx:VRel P F m x cx)
    (o1:OVRel P F m lo clo) (o2:OVRel P F m hi chi) (o3:OVRel P F m mx cmx) (hr:HRel P F m h w):∃cv,(Instr.sliceAt t cx clo chi cmx).run P w= .ok cv w∧VRel P F m v cv:=by
  unfold q2t at hs
  split at hs
  ·cases hs
  rename_i ti ht
  have hu:=fun w=>q1w (P:=P) ht w
  split at hs
  ·
    rename_i s hd
    split at hs
    case h_2=>cases hs
    rename_i l u hl hhu
    obtain⟨hc,rfl⟩:=q0i hs
    obtain⟨c1,c2⟩:=q0p hc
    have c1:=Y0J c1
    have c2:=Y0J c2
    obtain⟨bs,rfl,rfl⟩:=hx.str_inv
    cases cmx with
    |some _=>exact o3.elim
    | none=>
      rw[hd]at hu
      have hlen:(bs.data.toList.map UInt8.toNat).length=bs.size:=by simp
      rw[hlen]at hhu c2
      refine⟨.string (bs.extract l u),?_,?_⟩
      · rw[q7G hu (fun _ _=>nofun)]
        simp[Instr.slice,hu,Result.andThen,q9k hl hhu o1 o2 c1 c2]
      · have:((bs.data.toList.map UInt8.toNat).drop l).take (Nat.sub u l)=(bs.extract l u).data.toList.map UInt8.toNat:=by
          simp[ByteArray.data_extract,List.extract_eq_take_drop,←List.map_drop,←List.map_take]
        rw[this];exact .str _
  ·
    rename_i e r o len cap es fx hd
    split at hs
    case h_2=>cases hs
    rename_i y l u k hy hl hhu hk
    cases hc:(Nat.ble l u&&(Nat.ble u k&&(Nat.ble k cap&&Nat.beq y.size es)))with
    |false=>rw[hc]at hs;cases hs
    | true =>
      rw[hc]at hs
      simp only[Y0V]at hs
      obtain⟨c1,c2⟩:=q0p hc
      obtain⟨c2,c3⟩:=q0p c2
      obtain⟨c3,c4⟩:=q0p c3
      have c1:=Y0J c1
      have c2:=Y0J c2
      have c3:=Y0J c3
      have c4:=Y0P c4
      obtain⟨b,z,ccap,hm,rfl,h1,h2,h3,h4⟩:=hx.sl_inv
      rw[hd]at hu
      rw[q7G hu (fun _ _=>nofun)]
      cases mx with
      | some zv =>
        cases cmx with
        |none=>exact o3.elim
        | some cz =>
          simp only[Y0f,Y0V]at hs
          cases hi with
          |none=>cases hs
          | some yv=>
            cases chi with
            |none=>exact o2.elim
            | some cyv=>
              simp only[Y0f,Y0V]at hs
              cases hs
              have hb:=z7t (P:=P) (b:=true) (len:=len) (cap:=ccap) (w:=w) hl hhu hk o1 o2 o3 c1 c2 (by omega)
              by_cases hkl:k=l
              · subst hkl
                refine⟨.slice (some ⟨b,o,none⟩) (u-k) (k-k),by simp[Instr.slice,hu,Result.andThen,hb,q0O hy],?_⟩
                have:(bif Nat.beq k k then o else Nat.add o (Nat.mul k es))=o:=by simp
                rw[this]
                refine .sl hm (Y1r c2 k) (Y0u _) (fun _=>rfl) ?_
                simp only[Y1s,Y1t];omega
              · refine⟨.slice (some ⟨b,o+l*es,none⟩) (u-l) (k-l),by simp[Instr.slice,hu,Result.andThen,hb,q0O hy,hkl,q2U,c4],?_⟩
                have:(bif Nat.beq k l then o else Nat.add o (Nat.mul l es))=o+l*es:=by
                  have:Nat.beq k l=false:=by rw[q9v];simpa using hkl
                  rw[this];rfl
                rw[this]
                refine .sl hm (Y1r c2 l) (Y0u _) (fun _=>rfl) ?_
                have:o+l*es+(k-l)*es=o+k*es:=by rw[Y0K,←Y1u];congr 2;omega
                have h5:k*es≤ccap*es:=Y1v _ (by omega)
                omega
      | none =>
        cases cmx with
        |some _=>exact o3.elim
        | none =>
          simp only[Option.isSome_none,Y1b]at hs
          cases hk
          have hb:=q9k (P:=P) (b:=true) (len:=len) (cap:=ccap) (w:=w) hl hhu o1 o2 c1 (by omega)
          by_cases hl0:l=0
          · subst hl0
            simp only[Y1o,Y0V]at hs
            cases hs
            refine⟨.slice (some ⟨b,o,none⟩) u ccap,?_,.sl hm c2 h2 h3 h4⟩
            by_cases h0:ccap=0
            ·subst h0;simp[Instr.slice,hu,Result.andThen,hb,q0O hy]
            ·simp[Instr.slice,hu,Result.andThen,hb,q0O hy,h0,q2U]
          · have :Nat.beq l 0=false:=by rw[q9v];simpa using hl0
            rw[this]at hs
            simp only[Y1b]at hs
            cases hlt:Nat.blt l cap with
            | true=>
              rw[hlt]at hs
              have hlt:l<cap:=Y0J hlt
              cases hs
              have hne:¬ccap=l:=by omega
              refine⟨.slice (some ⟨b,o+l*es,none⟩) (u-l) (ccap-l),by simp[Instr.slice,hu,Result.andThen,hb,q0O hy,hne,q2U,c4],?_⟩
              refine .sl hm (Y1r c2 l) (Y1r h2 l) (fun e=>by rw[h3 e];rfl) ?_
              have:Nat.add o (Nat.mul l es)+(ccap-l)*es=o+ccap*es:=by
                show o+l*es+(ccap-l)*es=_
                rw[Y0K,←Y1u];congr 2;omega
              omega
            | false=>
              rw[hlt]at hs
              cases hs
              have hge:cap≤l:=by
                rcases Y1w l cap with h'|h'
                · have:Nat.blt l cap=true:=Y1x h'
                  rw[this]at hlt;cases hlt
                ·exact h'
              have hul:u-l=0:=by omega
              refine⟨_,by simp[Instr.slice,hu,Result.andThen,hb,q0O hy];rfl,?_⟩
              rw[hul];exact .isl0 _ _
  ·
    rename_i e xs hd
    split at hs
    case h_2=>cases hs
    rename_i y l u hy hl hhu
    obtain⟨hc,rfl⟩:=q0i hs
    obtain⟨c1,c2⟩:=q0p hc
    obtain⟨c2,c3⟩:=q0p c2
    have c1:=Y0J c1
    have c2:=Y0J c2
    obtain⟨a,cap,rfl,hcap,hne⟩:=hx.isl_inv
    cases cmx with
    |some _=>exact o3.elim
    | none =>
      rw[hd]at hu
      rw[q7G hu (fun _ _=>nofun)]
      have hb:=q9k (P:=P) (b:=true) (len:=xs.length) (cap:=cap) (w:=w) hl hhu o1 o2 c1 (by omega)
      have hlen:((xs.drop l).take (Nat.sub u l)).length=u-l:=by simp;omega
      by_cases h0:u-l=0
      · have:(xs.drop l).take (Nat.sub u l)= []:=Y1y (by rw[hlen];exact h0)
        rw[this]
        refine⟨_,by simp[Instr.slice,hu,Result.andThen,hb,q0O hy];rfl,?_⟩
        rw[h0];exact .isl0 _ _
      · obtain⟨b,off,arr,e',fz,es,g,rfl,hF,hes,hfc,hcc⟩:=hne (fun e=>by rw[e]at c2;simp at c2;omega)
        have hxl:l<xs.length:=by omega
        have hys:y.size=es:=by
          have h1:=Y0G.1 c3 _ (Y0H hxl)
          rw[←hes _ (Y0H hxl)]
          exact(Y0P h1).symm
        have hne':¬cap=l:=by omega
        have hvr:VRel P F m (.isl ((xs.drop l).take (Nat.sub u l))) (.slice (some ⟨b,off+l*es,none⟩) ((xs.drop l).take (Nat.sub u l)).length (cap-l)):=by
          refine .isl es (fun i j=>g (l+i) j) hF (by rw[hlen];omega) (fun c hc=>hes c (List.mem_of_mem_drop (Y1z hc))) ?_ ?_
          · intro i j hi hj
            rw[hlen]at hi
            have:=hfc (l+i) j (by omega) hj
            rw[←this]
            congr 1
            rw[Y1u];omega
          · intro i j c x hi hj
            rw[Y0k]at hi
            split at hi
            · rw[Y0l]at hi
              exact hcc (l+i) j c x hi hj
            ·cases hi
        rw[hlen]at hvr
        exact⟨_,by simp[Instr.slice,hu,Result.andThen,hb,q0O hy,hne',q2U,hys],hvr⟩
  ·
    rename_i e hd
    split at hs
    case h_2=>cases hs
    rename_i hl hhu hk
    obtain rfl:=hx.nilsl_inv
    rw[hd]at hu
    rw[q7G hu (fun _ _=>nofun)]
    cases he:(Ctx.of P gl eqT).ti e with
    |none=>rw[he]at hs;cases hs
    |some y=>
    rw[he]at hs
    cases mx with
    | some zv=>
      cases cmx with
      |none=>exact o3.elim
      | some cz=>
        cases hi with
        |none=>cases hs
        | some yv=>
          cases chi with
          |none=>exact o2.elim
          | some cyv=>
            cases hs
            have hb:=z7t (P:=P) (b:=true) (len:=0) (cap:=0) (w:=w) hl hhu hk o1 o2 o3 (Y0u _) (Y0u _) (Y0u _)
            exact⟨_,by simp[Instr.slice,hu,Result.andThen,hb,q0O he],.nilsl⟩
    | none=>
      cases cmx with
      |some _=>exact o3.elim
      | none=>
        cases hs
        have hb:=q9k (P:=P) (b:=true) (len:=0) (cap:=0) (w:=w) hl hhu o1 o2 (Y0u _) (Y0u _)
        exact⟨_,by simp[Instr.slice,hu,Result.andThen,hb,q0O he],.nilsl⟩
  ·
    rename_i k e r o hd
    split at hs
    case h_2=>cases hs
    rename_i y l u e' cs hy hl hhu hg
    obtain⟨hc,rfl⟩:=q0i hs
    obtain⟨c1,c2⟩:=q0p hc
    obtain⟨c2,c3⟩:=q0p c2
    have c1:=Y0J c1
    have c2:=Y0J c2
    have c3:o+k*y.size≤cs.length:=Y0J c3
    obtain⟨b,z,hm,rfl⟩:=hx.ptr_inv
    obtain⟨arr,g1,g2,g3,g4⟩:=hr.obj r _ b z hg hm
    cases cmx with
    |some _=>exact o3.elim
    | none=>
      rw[hd]at hu
      have hb:=q9k (P:=P) (b:=false) (len:=k) (cap:=k) (w:=w) hl hhu o1 o2 c1 c2
      by_cases hkl:k=l
      · subst hkl
        refine⟨.slice (some ⟨b,o,none⟩) (u-k) (k-k),by simp[Instr.sliceAt,Instr.sureAddr,hu,Result.andThen,hb,q0O hy],?_⟩
        have:(bif Nat.beq k k then o else Nat.add o (Nat.mul k y.size))=o:=by simp
        rw[this]
        refine .sl hm (Y1r c2 k) (Y0u _) (fun _=>rfl) ?_
        simp only[Y1s,Y1t];omega
      · refine⟨.slice (some ⟨b,o+l*y.size,none⟩) (u-l) (k-l),by simp[Instr.sliceAt,Instr.sureAddr,hu,Result.andThen,hb,q0O hy,hkl,q2U],?_⟩
        have:(bif Nat.beq k l then o else Nat.add o (Nat.mul l y.size))=o+l*y.size:=by
          have:Nat.beq k l=false:=by rw[q9v];simpa using hkl
          rw[this];rfl
        rw[this]
        refine .sl hm (Y1r c2 l) (Y0u _) (fun _=>rfl) ?_
        have:o+l*y.size+(k-l)*y.size=o+k*y.size:=by rw[Y0K,←Y1u];congr 2;omega
        omega
  ·cases hs
end
end Go.Ax
namespace Go.Ax
section
variable{P:Program}{F:Nat→Option Obj}{m:Loc}{gl:Nat→AV}{eqT:Knob}
theorem z9Q{t:TypeId}{l c v:AV}{cl cc:Value}{h h':Hp}{w:World}(ha:makeSlice (Ctx.of P gl eqT) t l c h=some (v,h'))(hl:VRel P F m l cl)(hc:VRel P F m c cc)(hr:HRel P F m h w)(hn:∀r,h.nx≤r→r<h'.nx→m r=none):
  ∃cv w' m',(Instr.makeSlice t cl cc).run P w= .ok cv w'∧Step P F m h h' w w' m'∧VRel P F m' v cv:=by
 unfold makeSlice at ha
 split at ha
 case h_2=>cases ha
 rename_i e size isAgg zero zeroOk bytes comparable zv ht
 split at ha
 case h_2=>cases ha
 rename_i x nl nc hx hnl hnc
 obtain⟨hb,he⟩:=q0i ha
 cases he
 obtain⟨hz,hb⟩:=q0p hb
 obtain⟨b1,hb⟩:=q0p hb
 obtain⟨b2,b3⟩:=q0p hb
 have b1:=Y0J b1
 have b2:=Y0J b2
 have b3:=Y0J b3
 obtain⟨k1,rfl⟩:=q9h hnl
 obtain⟨k2,rfl⟩:=q9h hnc
 obtain rfl:=hl.int_inv
 obtain rfl:=hc.int_inv
 obtain⟨i,z,hi,hiz,hsz,hzl,hzs⟩:=z6E (P:=P) (F:=F) (m:=m) hx hz
 have hby:i.bytes=x.bytes:=by obtain⟨j,hj,_,e2,_⟩:=q6v hx;rw[hi]at hj;cases hj;exact e2.symm
 have hu:=q0A ht
 dsimp only at hu
 have hbytes:(i.bytes:Int)*(Int.ofNat nc)≤281474976710656:=by
  rw[hby]
  have:x.bytes*nc≤1000000*1000000:=Nat.mul_le_mul b3 b2
  have h2:((x.bytes*nc:Nat):Int)=(x.bytes:Int)*(Int.ofNat nc):=by simp
  omega
 have hlc:(Int.ofNat nl:Int)≤Int.ofNat nc:=by show(nl:Int)≤(nc:Int);omega
 have h63:(Int.ofNat nc:Int)≤9223372036854775807:=by show(nc:Int)≤_;omega
 have hn':=hn h.nx (Y0u _) (Y0B _)
 have hrun:=run_make (P:=P) w t e i z hu hi hiz k1 k2 (.ofNat nl) (.ofNat nc) (Y1c nl) hlc hbytes h63
 have hcells:LRel P F m (zeroCells nc x.zero) (madeCells z.cells ((Int.ofNat nc).toNat*i.size)).toList:=by
  have e1:(Int.ofNat nc).toNat*i.size=nc*z.cells.size:=by rw[hzs,hsz];rfl
  exact z3O hzl nc _ e1
 refine⟨_,_,_,hrun,q9A hr hn' e hcells,.sl (z:=_) (Y0v _ _ _ _) b1 (Y0u _) (fun _=>rfl) ?_⟩
 rw[size_madeCells,hsz]
 show 0+nc*x.size≤nc*x.size
 omega
theorem x5d{x:AV}{cx:Value}{k:Nat}{w:World}(h:lenA x=some k)(hx:VRel P F m x cx):(Builtin.lenOf cx).run P w= .ok k w:=by
 unfold lenA at h
 split at h
 ·cases h;obtain rfl:=hx.nilsl_inv;simp[Builtin.lenOf]
 ·cases h;obtain⟨b,z,ccap,_,rfl,_⟩:=hx.sl_inv;simp[Builtin.lenOf]
 ·cases h;obtain⟨a,cap,rfl,_⟩:=hx.isl_inv;simp[Builtin.lenOf]
 ·cases h;obtain⟨s,rfl,rfl⟩:=hx.str_inv;simp[Builtin.lenOf]
 ·cases h
theorem x6z{t:TypeId}{ts:Array TypeId}{ty:TypeId}{args:Array Value}{x v:AV}{cx:Value}{h:Hp}{w:World}(ht:ts[0]? =some t)(ha:args[0]? =some cx)(hl:q2S (Ctx.of P gl eqT) t x h=some v)(hx:VRel P F m x cx)(hr:HRel P F m h w):
  ∃cv,(Builtin.len_ ts ty args).run P w= .ok cv w∧VRel P F m v cv:=by
 unfold q2S at hl
 split at hl
 ·cases hl
 rename_i ti hti
 have hu:=q1w hti w
 split at hl
 ·rename_i s hd;cases hl;rw[hd]at hu
  obtain⟨s,rfl,rfl⟩:=hx.str_inv
  refine⟨.int .i64 (.ofNat s.size),by simp[Builtin.len_,ht,ha,hu,Result.andThen,goInt],?_⟩
  have:((s.data.toList.map UInt8.toNat).length)=s.size:=by simp
  rw[this];exact .int _ _
 ·rename_i n e hd;cases hl;rw[hd]at hu
  exact⟨.int .i64 (.ofNat n),by simp[Builtin.len_,ht,ha,hu,Result.andThen,goInt],.int _ _⟩
 ·cases hl
 ·rename_i e x hd hns;rw[hd]at hu
  split at hl
  case h_2=>cases hl
  rename_i n hn
  cases hl
  refine⟨.int .i64 (.ofNat n),?_,.int _ _⟩
  unfold lenA at hn
  split at hn
  ·cases hn;obtain rfl:=hx.nilsl_inv;simp[Builtin.len_,ht,ha,hu,Result.andThen,goInt]
  ·cases hn;obtain⟨b,z,ccap,_,rfl,_⟩:=hx.sl_inv;simp[Builtin.len_,ht,ha,hu,Result.andThen,goInt]
  ·cases hn;obtain⟨a,cap,rfl,_⟩:=hx.isl_inv;simp[Builtin.len_,ht,ha,hu,Result.andThen,goInt]
  ·exact absurd rfl (hns _)
  ·cases hn
 ·rename_i hd;cases hl;rw[hd]at hu
  obtain rfl:=hx.nilmap_inv
  exact⟨.int .i64 0,by simp[Builtin.len_,ht,ha,hu,Result.andThen,goInt],.int _ _⟩
 ·rename_i r hd;rw[hd]at hu
  split at hl
  case h_2=>cases hl
  rename_i es clock hg
  cases hl
  obtain⟨b,z,hm,rfl⟩:=hx.map_inv
  obtain⟨ces,h1,h2,_⟩:=hr.obj r _ b z hg hm
  exact⟨.int .i64 (.ofNat ces.size),by simp[Builtin.len_,ht,ha,hu,Result.andThen,goInt,getObj,Sem.run,h1],by rw[h2];exact .int _ _⟩
 ·cases hl
theorem q4Q {h:Hp} {es k:Nat} {x:AV} {cx:Value} {new:List AV} {w w0:World} (hs:q0N h es k x=some new) (hx:VRel P F m x cx) (hr:HRel P F m h w) (hw:w0.heap=w.heap):
    ∃arr,(Builtin.firstCells es k cx).run P w0= .ok arr w0∧LRel P F m new arr.toList:=by
  have hcell:∀b j arr (e:TypeId) (fz:Nat×Nat),w.heap[b]? =some (.cells arr e fz)→w0.cell? ⟨b,j,none⟩=arr[j]? :=fun b j arr e fz hb=>z1K (by rw[hw];exact hb)
  unfold q0N at hs
  split at hs
  · obtain⟨hk,rfl⟩:=q0i hs
    obtain rfl:=hx.nilsl_inv
    exact⟨#[],by simp[Builtin.firstCells],.nil⟩
  · rename_i r o len cap fs fx
    obtain⟨b,z,ccap,hm,rfl,h1,h2,h3,h4⟩:=hx.sl_inv
    cases hc:(Nat.ble k len&&Nat.beq fs es)with
    |false=>rw[hc]at hs;cases hs
    | true=>
      rw[hc]at hs
      simp only[Y0V]at hs
      split at hs
      case h_2=>cases hs
      rename_i e cs hg
      obtain⟨hle,rfl⟩:=z6i hs
      obtain⟨arr,g1,g2,g3,g4⟩:=hr.obj r _ b z hg hm
      have hle:o+k*es≤cs.length:=hle
      let vs:=(arr.toList.drop o).take (k*es)
      have hvl:vs.length=k*es:=by simp[vs];omega
      have hrun:=run_loadCells_list (P:=P) w0 ⟨b,o,none⟩ vs (fun j v hj=>by
        rw[q2U,hcell b _ arr e _ g1]
        rw[Y0k]at hj
        split at hj
        ·rw[Y0l]at hj;simpa using hj
        ·cases hj)
      rw[hvl]at hrun
      refine⟨vs.toArray,by simpa [Builtin.firstCells]using hrun,?_⟩
      have:LRel P F m (cs.take (o+k*es)) (arr.toList.take (o+k*es)):=by
        refine⟨by simp;omega,fun i x y hx hy=> ?_⟩
        rw[Y0k]at hx hy
        split at hx
        ·rename_i hi;rw[Y0e hi]at hy;exact g4 i x y hx (by simpa using hy)
        ·cases hx
      have h2:=this.drop o
      rw[List.drop_take,List.drop_take,Y1A]at h2
      exact h2
  · rename_i xs
    obtain⟨a,cap,rfl,hcap,hne⟩:=hx.isl_inv
    obtain⟨hc,rfl⟩:=q0i hs
    obtain⟨c1,c2⟩:=q0p hc
    have c1:=Y0J c1
    have hall:∀c∈xs,c.length=es:=fun c hc=>Y0P (Y0G.1 c2 c hc)
    by_cases h0:k*es=0
    · have hnil:(xs.take k).flatten= []:=by
        apply Y1y
        rw[List.length_flatten]
        have:(xs.take k).map List.length=List.replicate k es:=by
          apply List.ext_getElem
          ·simp;omega
          · intro i h1 h2
            simp only[List.getElem_map,List.getElem_take,List.getElem_replicate]
            exact hall _ (Y0H _)
        rw[this];simpa using h0
      rw[hnil]
      cases a with
      |none=>exact⟨#[],by simp[Builtin.firstCells],.nil⟩
      |some a=>exact⟨#[],by simp only[Builtin.firstCells,h0];rfl,.nil⟩
    · have hxs:xs≠ []:=fun e=>by subst e;simp at c1;subst c1;simp at h0
      obtain⟨b,off,arr,e',fz,es',g,rfl,hF,hes,hfc,hcc⟩:=hne hxs
      have hes':es'=es:=by
        obtain⟨c,l,rfl⟩:=List.exists_cons_of_ne_nil hxs
        rw[←hes c Y0T,hall c Y0T]
      subst hes'
      have hb:=hr.frz b _ hF
      have key:∀n,n≤xs.length→∃vs:List Value,vs.length=n*es'∧(∀j v,vs[j]? =some v→w0.cell? ⟨b,off+j,none⟩=some v)∧LRel P F m (xs.take n).flatten vs:=by
        intro n
        induction n with
        |zero=>intro _;exact⟨[],by simp,fun j v h=>by simp at h,by simp;exact .nil⟩
        | succ n ih=>
          intro hn
          obtain⟨vs,v1,v2,v3⟩:=ih (by omega)
          have hlt:n<xs.length:=by omega
          let row:=(List.range es').map fun j=>g n j
          refine⟨vs++row,by simp[row,v1,Y0Y],?_,?_⟩
          · intro j v hj
            by_cases hjl:j<vs.length
            ·rw[Y0i hjl]at hj;exact v2 j v hj
            · rw[Y0j (by omega)]at hj
              have hj':j-vs.length<es':=by have:=(Y0m.1 hj).1;simpa [row]using this
              have hv:v=g n (j-vs.length):=by simp[row,hj']at hj;exact hj.symm
              rw[hcell b _ arr e' fz hb,hv,←hfc n (j-vs.length) hlt hj']
              congr 1;omega
          · have e1:(xs.take (n+1)).flatten=(xs.take n).flatten++xs[n]:=by
              rw[Y1B hlt,Y1C];simp
            rw[e1]
            refine v3.append ⟨by simp[row];exact hes _ (Y0H hlt),fun i x y hx hy=> ?_⟩
            have hi:i<es':=by have:=(Y0m.1 hy).1;simpa [row]using this
            have:y=g n i:=by simp[row,hi]at hy;exact hy.symm
            rw[this]
            exact hcc n i xs[n] x (Y0n hlt) hx
      obtain⟨vs,v1,v2,v3⟩:=key k c1
      have hrun:=run_loadCells_list (P:=P) w0 ⟨b,off,none⟩ vs (fun j v hj=>by rw[q2U];exact v2 j v hj)
      rw[v1]at hrun
      exact⟨vs.toArray,by simpa [Builtin.firstCells]using hrun,v3⟩
  · rename_i s
    obtain⟨hc,rfl⟩:=q0i hs
    obtain⟨bs,rfl,rfl⟩:=hx.str_inv
    refine⟨(bs.extract 0 k).data.map fun b=>.int .u8 b.toNat,by simp[Builtin.firstCells],?_⟩
    have e1:((bs.extract 0 k).data.map fun b=>Value.int .u8 b.toNat).toList=(bs.data.toList.take k).map fun b=>Value.int .u8 b.toNat:=by
      simp[ByteArray.data_extract,List.extract_eq_take_drop]
    rw[e1,←List.map_take,Y1D]
    refine⟨by simp,fun i x y hx hy=> ?_⟩
    rw[Y0R]at hx hy
    cases hb:(bs.data.toList.take k)[i]? with
    |none=>rw[hb]at hx;cases hx
    |some u=>rw[hb]at hx hy;cases hx;cases hy;exact .int _ _
  ·cases hs
end
end Go.Ax
namespace Go.Ax
section
variable{P:Program}{F:Nat→Option Obj}{m:Loc}{gl:Nat→AV}{eqT:Knob}
theorem z7j{d:TypeDesc}(h:z2r d=true):(∃e,d= .slice e)∨d= .string:=by cases d<;>first|(exact .inl ⟨_,rfl⟩)|(exact .inr rfl)|cases h
theorem q9K{t xt ty e:TypeId}{dx:TypeDesc}{i:TypeInfo}{ts:Array TypeId}{args:Array Value}{w w':World}(t0:ts[0]? =some t)(t1:ts[1]? =some xt)(ht:P.underlying t=some (.slice e))(hxt:P.underlying xt=some dx)(hdx:z2r dx=true)(hi:P.info? e=some i)
    {base:Option Addr} {sLen sCap n:Nat} {x:Value} {arr:Array Value} (a0:args[0]? =some (.slice base sLen sCap)) (a1:args[1]? =some x) (hL:(Builtin.lenOf x).run P w= .ok n w) (hF:(Builtin.firstCells i.size n x).run P w= .ok arr w)
    (hroom:sLen+n≤sCap) (hst:(match base with|some a=>storeCells (a.add (sLen*i.size)) arr.toList|none=>pure ():Sem Unit).run P w= .ok () w'):
    (Builtin.append_ ts ty args).run P w= .ok (.slice base (sLen+n) sCap) w':=by
  rcases z7j hdx with⟨e2,rfl⟩|rfl
  all_goals cases base with
  | none=>
    simp at hst
    subst hst
    simp[Builtin.append_,t0,t1,a0,a1,run_underlying ht,run_underlying hxt,sizeOf,typeInfo,hi,hL,hF,hroom]
  | some a=>
    simp only at hst
    simp[Builtin.append_,t0,t1,a0,a1,run_underlying ht,run_underlying hxt,sizeOf,typeInfo,hi,hL,hF,hroom,hst]
theorem z2k{t xt ty e:TypeId}{dx:TypeDesc}{i:TypeInfo}{z:Value}{ts:Array TypeId}{args:Array Value}{w:World}(t0:ts[0]? =some t)(t1:ts[1]? =some xt)(ht:P.underlying t=some (.slice e))(hxt:P.underlying xt=some dx)(hdx:z2r dx=true)(hi:P.info? e=some i)(hz:i.zero=some z)
  {base:Option Addr} {sLen sCap n:Nat} {x:Value} {olds arr:Array Value} (a0:args[0]? =some (.slice base sLen sCap)) (a1:args[1]? =some x) (hL:(Builtin.lenOf x).run P w= .ok n w) (hF:(Builtin.firstCells i.size n x).run P w.drew= .ok arr w.drew)
  (hO:(Builtin.firstCells i.size sLen (.slice base sLen sCap)).run P w.drew= .ok olds w.drew) (hroom:sCap<sLen+n) (h63:sLen+n≤1000000) (hb:i.bytes≤1000000):
  ∃cap rest,sLen+n≤cap∧rest.size=(cap-(sLen+n))*z.cells.size∧(Builtin.append_ ts ty args).run P w= .ok (.slice (some ⟨w.heap.size,0,none⟩) (sLen+n) cap) (w.drew.alloc (.cells (olds++arr++rest) e)):=by
 have hn:¬(sLen+n≤sCap):=by omega
 have h63':¬(9223372036854775807<((sLen:Int)+(n:Int))):=by omega
 have h48':¬(281474976710656<Builtin.nextslicecap (sLen+n) sCap*i.bytes):=by
  have h1:=nextslicecap_le hroom
  have h2:Builtin.nextslicecap (sLen+n) sCap*i.bytes≤2000000*1000000:=Nat.mul_le_mul (by omega) hb
  omega
 refine⟨grownCap w (sLen+n) sCap e,Builtin.zeroCells z.cells (grownCap w (sLen+n) sCap e-(sLen+n)),grownCap_ge w _ _ _,size_zeroCells _ _,?_⟩
 rcases z7j hdx with⟨e2,rfl⟩|rfl
 all_goals simp[Builtin.append_,t0,t1,a0,a1,run_underlying ht,run_underlying hxt,sizeOf,typeInfo,zeroValue,hi,hz,hL,hn,h63',h48',Question.forced,hF,hO,newRow,grownCap]
theorem Step.moveIn{h:Hp}{w w':World}(hr:HRel P F m h w)(hn:m h.nx=none){r:Nat}{q:AObj}{b z:Nat}(hg:h.get r=some q)(hq:q.live=true)(hm:m r=some (b,z)){o:AObj}{ob:Obj}
  (hat:w'.heap[b]? =some ob) (hne:∀c,c≠b→w'.heap[c]? =w.heap[c]?) (hsz:w'.heap.size=w.heap.size) (hs:SameOut w w') (ho:ORel P F (m.put h.nx b z) z o (some ob)):
  Step P F m h ((h.put r .dead).new o) w w' (m.put h.nx b z):=by
 have hle:Loc.le m (m.put h.nx b z):=Loc.le_put hn
 have hbl:b<w.heap.size:=hr.lt hg hq hm
 have get':∀s,((h.put r .dead).new o).get s=if h.nx=s then some o else if r=s then some .dead else h.get s:=fun s=>by
  rw[Y0x,Y0y];rfl
 have hF:=hr.out r q b z hg hq hm
 refine⟨hle,?_,⟨?_,?_,?_,?_,fun s hs'=>by
  have hs':h.nx+1≤s:=hs'
  have hw:=hr.wf s (by omega)
  rw[get',Y0c (by omega),Y0c (fun e=>by rw[←e,hg]at hw;cases hw)];exact hw⟩,hs,(by rw[hsz];exact Y0u _),?_,Y0A _,?_,?_,fun b o h=>.inl h⟩
 ·intro s c hc hn'
  by_cases h':s=h.nx
  ·subst h';exact⟨Y0u _,Y0B _⟩
  ·rw[Y0w m _ _ h',hn']at hc;cases hc
 ·intro s p c y hg' hm'
  rw[get']at hg'
  by_cases h':h.nx=s
  ·rw[Y0e h']at hg';cases hg'
   subst h'
   rw[Y0v]at hm';cases hm'
   rw[hat];exact ho
  ·rw[Y0c h']at hg'
   rw[Y0w m _ _ (fun e=>h' e.symm)]at hm'
   by_cases h2:r=s
   ·rw[Y0e h2]at hg';cases hg';trivial
   ·rw[Y0c h2]at hg'
    have h1:=hr.obj s p c y hg' hm'
    by_cases hl:p.live=true
    ·have hc:c≠b:=fun e=>h2 (hr.inj r s q p b z y hg hq hg' hl hm (e▸hm'))
     rw[hne c hc];exact h1.mono hle
    ·cases p<;>first|trivial|exact absurd rfl hl
 ·intro s t p p' c y y' hg1 hl1 hg2 hl2 hm1 hm2
  rw[get']at hg1 hg2
  have e1:∃s',(s'=s∧h.nx≠s∧r≠s∧h.get s=some p∧m s=some (c,y))∨(s=h.nx∧c=b):=by
   by_cases h':h.nx=s
   ·subst h';rw[Y0v]at hm1;cases hm1;exact⟨0,.inr ⟨rfl,rfl⟩⟩
   ·rw[Y0c h']at hg1
    rw[Y0w m _ _ (fun e=>h' e.symm)]at hm1
    by_cases h2:r=s
    ·rw[Y0e h2]at hg1;cases hg1;cases hl1
    ·rw[Y0c h2]at hg1;exact⟨s,.inl ⟨rfl,h',h2,hg1,hm1⟩⟩
  have e2:∃s',(s'=t∧h.nx≠t∧r≠t∧h.get t=some p'∧m t=some (c,y'))∨(t=h.nx∧c=b):=by
   by_cases h':h.nx=t
   ·subst h';rw[Y0v]at hm2;cases hm2;exact⟨0,.inr ⟨rfl,rfl⟩⟩
   ·rw[Y0c h']at hg2
    rw[Y0w m _ _ (fun e=>h' e.symm)]at hm2
    by_cases h2:r=t
    ·rw[Y0e h2]at hg2;cases hg2;cases hl2
    ·rw[Y0c h2]at hg2;exact⟨t,.inl ⟨rfl,h',h2,hg2,hm2⟩⟩
  obtain⟨_,⟨_,n1,r1,g1,l1⟩|⟨rfl,rfl⟩⟩:=e1
  ·obtain⟨_,⟨_,n2,r2,g2,l2⟩|⟨rfl,rfl⟩⟩:=e2
   ·exact hr.inj s t p p' c y y' g1 hl1 g2 hl2 l1 l2
   ·exact absurd (hr.inj r s q p c z y hg hq g1 hl1 hm l1) r1
  ·obtain⟨_,⟨_,n2,r2,g2,l2⟩|⟨rfl,_⟩⟩:=e2
   ·exact absurd (hr.inj r t q p' c z y' hg hq g2 hl2 hm l2) r2
   ·rfl
 ·intro s p c y hg' hl hm'
  rw[get']at hg'
  by_cases h':h.nx=s
  ·subst h';rw[Y0v]at hm';cases hm';exact hF
  ·rw[Y0c h']at hg'
   rw[Y0w m _ _ (fun e=>h' e.symm)]at hm'
   by_cases h2:r=s
   ·rw[Y0e h2]at hg';cases hg';cases hl
   ·rw[Y0c h2]at hg';exact hr.out s p c y hg' hl hm'
 ·intro c x hx
  have hc:c≠b:=fun e=>by
   rw[e]at hx
   rcases hx with hx|hx
   ·rw[hF.1]at hx;cases hx
   ·have hx:m.fz b=some x:=hx
    rw[hF.2]at hx;cases hx
  rw[hne c hc];exact hr.frz c x hx
 ·intro c hc hall
  exact hne c (fun e=>hall r q z hg hq (e▸hm))
 ·intro s o' c hg' hl hms
  rw[get']at hg'
  by_cases h':h.nx=s
  ·subst h';rw[hn]at hms;cases hms
  ·rw[Y0c h']at hg'
   by_cases h2:r=s
   ·rw[Y0e h2]at hg';cases hg';cases hl
   ·rw[Y0c h2]at hg';exact⟨o',hg',hl⟩
 ·intro s c y hc hn' _
  by_cases h':s=h.nx
  ·subst h';rw[Y0v]at hc;cases hc;exact .inr ⟨r,q,z,hg,hq,hm⟩
  ·rw[Y0w m _ _ h',hn']at hc;cases hc
end
end Go.Ax
namespace Go.Ax
section
variable{P:Program}{F:Nat→Option Obj}{m:Loc}{gl:Nat→AV}{eqT:Knob}
theorem z5w{h:Hp}{w w1:World}(hr:HRel P F m h w)(hn:m h.nx=none)(e:TypeId){cs:List AV}{cells:Array Value}(hle:cs.length≤cells.size)(hc:∀(i:Nat) (x:AV) (y:Value),cs[i]? =some x→cells[i]? =some y→VRel P F m x y)
  (hh:w1.heap=w.heap.push (.cells cells e)) (hs:SameOut w w1):Step P F m h (h.new (.cells e cs)) w w1 (m.put h.nx w.heap.size cells.size):=
 Step.alloc hr hn hh hs ⟨cells,rfl,rfl,hle,fun i x y hx hy=>(hc i x y hx hy).mono (Loc.le_put hn)⟩
theorem LRel.append_rest{l:List AV}{a rest:Array Value}(h:LRel P F m l a.toList):l.length≤(a++rest).size∧∀(i:Nat) (x:AV) (y:Value),l[i]? =some x→(a++rest)[i]? =some y→VRel P F m x y:=by
 have hl:=h.len
 simp at hl
 refine⟨by simp;omega,fun i x y hx hy=> ?_⟩
 have hi:i<l.length:=(Y0m.1 hx).1
 rw[Y1E (by omega)]at hy
 exact h.at' i x y hx (by simpa using hy)
theorem x4i {st xt ty:TypeId} {s x v:AV} {cs cx:Value} {ts:Array TypeId} {args:Array Value} {h h':Hp} {w:World} (t0:ts[0]? =some st) (t1:ts[1]? =some xt) (a0:args[0]? =some cs) (a1:args[1]? =some cx)
    (ha:q0Z (Ctx.of P gl eqT) st xt s x h=some (v,h')) (hs:VRel P F m s cs) (hx:VRel P F m x cx) (hr:HRel P F m h w) (hn:∀r,h.nx≤r→r<h'.nx→m r=none):
    ∃cv w' m',(Builtin.append_ ts ty args).run P w= .ok cv w'∧Step P F m h h' w w' m'∧VRel P F m' v cv:=by
  unfold q0Z at ha
  split at ha
  case h_2=>cases ha
  rename_i e size isAgg zero zeroOk bytes comparable zv xi k hst hxt hk
  have hu:=q0A hst
  dsimp only at hu
  have hux:=q0A hxt
  split at ha
  ·cases ha
  ·cases ha
  rename_i y hy hsrc
  split at ha
  ·cases ha
  rename_i new hnew
  cases hc:(new.all q1f&&(Nat.ble y.bytes 1000000&&Nat.beq new.length (Nat.mul k y.size)))with
  |false=>rw[hc]at ha;cases ha
  |true=>
  rw[hc]at ha
  simp only[Y0V]at ha
  obtain⟨c1,c2⟩:=q0p hc
  obtain⟨c2,c3⟩:=q0p c2
  have c2:=Y0J c2
  have c3:new.length=k*y.size:=Y0P c3
  obtain⟨i,hi,e1,e2,_⟩:=q6v hy
  obtain⟨arr,hF,hnl⟩:=q4Q (w0:=w) hnew hx hr rfl
  obtain⟨arr',hF',hnl'⟩:=q4Q (w0:=w.drew) hnew hx hr rfl
  rw[e1]at hF hF'
  have hL:=x5d (w:=w) hk hx
  split at ha
  ·
    obtain rfl:=hs.nilsl_inv
    cases hk0:Nat.beq k 0 with
    | true=>
      rw[hk0]at ha
      cases ha
      have hk0:=Y0P hk0
      subst hk0
      exact⟨_,w,m,q9K t0 t1 hu hux hsrc hi a0 a1 hL hF (Y0u _) (by simp),Y0t hr rfl (Y0r w),.nilsl⟩
    | false=>
      rw[hk0]at ha
      simp only[Y1b]at ha
      obtain⟨hb,he⟩:=q0i ha
      cases he
      obtain⟨hz,hb⟩:=q0p hb
      have hb:=Y0J hb
      have hkp:0<k:=by rw[q9v]at hk0;simp at hk0;omega
      obtain⟨i',z,hi',hiz,hsz,hzl,hzs⟩:=z6E (P:=P) (F:=F) (m:=m) hy hz
      rw[hi]at hi';cases hi'
      obtain⟨cap,rest,hcap,hrest,hrun⟩:=z2k (olds:= #[]) t0 t1 hu hux hsrc hi hiz a0 a1 hL hF' (by simp[Builtin.firstCells]) (by omega) (by omega) (by omega)
      have hn':=hn h.nx (Y0u _) (Y0B _)
      obtain⟨g1,g2⟩:=hnl'.append_rest (rest:=rest)
      rw[Y0L]at hcap hrest hrun
      simp only[Array.empty_append]at hrun
      refine⟨_,_,_,hrun,z5w hr hn' e g1 g2 rfl ⟨rfl,rfl,rfl⟩,.sl (z:=_) (Y0v _ _ _ _) (Y0u _) hcap (fun h=>by cases h) ?_⟩
      have hal:arr'.size=k*y.size:=by have:=hnl'.len;simp at this;omega
      rw[Array.size_append,hal,hrest,hzs,←Y1u,Nat.add_sub_cancel' hcap,Y0L]
      exact Y0u _
  ·
    rename_i r o len cap es ex
    obtain⟨b,z,ccap,hm,rfl,h1,h2,h3,h4⟩:=hs.sl_inv
    split at ha
    case h_2=>cases ha
    rename_i e' ccs hg
    cases hc2:(Nat.beq es y.size&&(Nat.ble (Nat.add o (Nat.mul len es)) ccs.length&&Nat.ble (Nat.add len k) 1000000))with
    |false=>rw[hc2]at ha;cases ha
    |true=>
    rw[hc2]at ha
    simp only[Y0V]at ha
    obtain⟨d1,d2⟩:=q0p hc2
    obtain⟨d2,d3⟩:=q0p d2
    obtain rfl:=Y0P d1
    have d2:o+len*y.size≤ccs.length:=Y0J d2
    have d3:len+k≤1000000:=Y0J d3
    obtain⟨row,g1,g2,g3,g4⟩:=hr.obj r _ b z hg hm
    cases hin:Nat.ble (Nat.add len k) cap with
    | true=>
      rw[hin]at ha
      have hin:len+k≤cap:=Y0J hin
      obtain⟨hfit,he⟩:=q0i ha
      cases he
      have hfit:o+len*y.size+new.length≤ccs.length:=Y0J hfit
      obtain⟨w',hst',hstep⟩:=Step.cells hr hg hm hnl c1 hfit
      refine⟨_,w',m,q9K t0 t1 hu hux hsrc hi a0 a1 hL hF (by omega) ?_,hstep,.sl hm hin h2 h3 h4⟩
      rw[←e1];simp only[q2U];exact hst'
    | false =>
      rw[hin]at ha
      have hin:cap<len+k:=by
        rcases Y1w cap (len+k)with h'|h'
        ·exact h'
        · have:Nat.ble (Nat.add len k) cap=true:=Y1x h'
          rw[this]at hin;cases hin
      simp only[Y1b]at ha
      cases hz:y.zeroOk with
      |false=>rw[hz]at ha;cases ha
      |true=>
      rw[hz]at ha
      simp only[Y1k,Y1b]at ha
      obtain⟨i',zv,hi',hiz,hsz,hzl,hzs⟩:=z6E (P:=P) (F:=F) (m:=m) hy hz
      rw[hi]at hi';cases hi'
      have hO:∀w0:World,w0.heap=w.heap→∃olds,(Builtin.firstCells y.size len (.slice (some ⟨b,o,none⟩) len ccap)).run P w0= .ok olds w0∧LRel P F m ((ccs.drop o).take (len*y.size)) olds.toList:=fun w0 hw0=>by
        refine q4Q (h:=h) (es:=y.size) (k:=len) (x:=.sl r o len cap y.size ex) (w:=w) ?_ hs hr hw0
        unfold q0N
        have e3:(Nat.ble len len&&Nat.beq y.size y.size)=true:=by simp
        dsimp only
        rw[e3,hg]
        simp only[Y0V]
        unfold sub
        have e4:Nat.ble (Nat.add o (Nat.mul len y.size)) ccs.length=true:=Y1x d2
        rw[e4];rfl
      have out:∀(hh:Hp) (ec:TypeId),ec=e→HRel P F m hh w→hh.nx=h.nx→m h.nx=none→ccap<len+k→∃cv w' m',(Builtin.append_ ts ty args).run P w= .ok cv w'∧
          Step P F m hh (hh.new (.cells ec ((ccs.drop o).take (len*y.size)++new))) w w' m'∧VRel P F m' (.sl h.nx 0 (len+k) (len+k) y.size false) cv:=by
        intro hh ec hec hrr hnx hn0 hlt
        subst hec
        obtain⟨olds,hO1,hO2⟩:=hO w.drew rfl
        rw[e1]at hO1
        obtain⟨ncap,rest,hcap,hrest,hrun⟩:=z2k t0 t1 hu hux hsrc hi hiz a0 a1 hL hF' hO1 hlt d3 (by omega)
        have hn':m hh.nx=none:=by rw[hnx];exact hn0
        have hon:LRel P F m ((ccs.drop o).take (len*y.size)++new) (olds++arr').toList:=by
          rw[Y1F];exact hO2.append hnl'
        obtain⟨g1',g2'⟩:=hon.append_rest (rest:=rest)
        refine⟨_,_,_,hrun,z5w hrr hn' ec g1' g2' rfl ⟨rfl,rfl,rfl⟩,?_⟩
        rw[←hnx]
        refine .sl (z:=_) (Y0v _ _ _ _) (Y0u _) hcap (fun h=>by cases h) ?_
        have hal:arr'.size=k*y.size:=by have:=hnl'.len;simp at this;omega
        have hol:olds.size=len*y.size:=by have:=hO2.len;simp at this;omega
        rw[Array.size_append,Array.size_append,hal,hol,hrest,hzs,Y0L,←Y1u,←Y1u,Nat.add_sub_cancel' hcap]
        exact Y0u _
      cases hex:ex with
      | true=>
        rw[hex]at ha
        simp only[Y0V]at ha
        cases ha
        exact out h e rfl hr rfl (hn h.nx (Y0u _) (Y0B _)) (by have:=h3 hex;omega)
      | false =>
        rw[hex]at ha
        simp only[Y1b]at ha
        cases ho:(Nat.beq o 0&&Nat.ble (Nat.mul len y.size) ccs.length)with
        |false=>rw[ho]at ha;cases ha
        |true=>
        rw[ho]at ha
        simp only[Y0V]at ha
        obtain⟨hee,he⟩:=q0i ha
        cases he
        obtain rfl:=Y0P hee
        obtain rfl:=Y0P (q0p ho).1
        have hn':=hn h.nx (Y0u _) (Y0B _)
        rw[Y0L]at d2
        rcases Y1w ccap (len+k)with hlt|hge
        ·
          have hput:=Step.put (w':=w) hr hg rfl hm (o:=.dead) g1 (fun _ _=>rfl) rfl (Y0r w) trivial
          obtain⟨cv,w',m',hrun,hstep,hv⟩:=out (h.put r .dead) e rfl hput.rel rfl hn' hlt
          refine⟨cv,w',m',hrun,?_,hv⟩
          have:=hput.trans hstep
          simpa using this
        ·
          have hal:new.length=arr.size:=by have:=hnl.len;simpa using this
          have hfit:len*y.size+arr.toList.length≤row.size:=by
            rw[Y0Q,←hal,c3,←Y1u,g2]
            have:(len+k)*y.size≤ccap*y.size:=Y1v _ hge
            omega
          have hst':=run_storeCells_at P b (len*y.size) e arr.toList 0 row w g1 (by simpa using hfit) (hnl.one c1)
          simp only[Nat.add_zero]at hst'
          have hat:=setRow_heap w b row (row.toList.take (len*y.size)++arr.toList++row.toList.drop (len*y.size+arr.toList.length)).toArray e (0,0) g1
          refine⟨_,_,m.put h.nx b z,q9K t0 t1 hu hux hsrc hi a0 a1 hL hF (by omega) (by rw[←e1];simp only[q2U,Y0L];exact hst'),
            Step.moveIn hr hn' hg rfl hm (o:=.cells e (ccs.take (len*y.size)++new)) hat (fun c hcb=>setRow_other w b c _ hcb) (setRow_size w b _) ⟨rfl,rfl,rfl⟩ ?_,?_⟩
          · refine⟨_,rfl,by simp at hfit⊢;omega,by simp at hfit⊢;omega,fun j p q hp hq=> ?_⟩
            have hq:((row.toList.take (len*y.size)++arr.toList)++row.toList.drop (len*y.size+arr.toList.length))[j]? =some q:=by simpa using hq
            have hjl:j<(ccs.take (len*y.size)++new).length:=(Y0m.1 hp).1
            simp at hjl hfit
            rw[Y0i (by simp;omega)]at hq
            have hpre:LRel P F m (ccs.take (len*y.size)++new) (row.toList.take (len*y.size)++arr.toList):=by
              refine LRel.append ⟨by simp;omega,fun i' x' y' hx' hy'=> ?_⟩ hnl
              rw[Y0k]at hx' hy'
              split at hx'
              ·rename_i hi';rw[Y0e hi']at hy';exact g4 i' x' y' hx' (by simpa using hy')
              ·cases hx'
            exact(hpre.at' j p q hp hq).mono (Loc.le_put hn')
          ·refine .sl (z:=z) (Y0v _ _ _ _) (Y0u _) hge (fun h=>by cases h) h4
  ·cases ha
theorem copyA_rel{dt ty:TypeId}{d x v:AV}{cd cx:Value}{ts:Array TypeId}{args:Array Value}{h h':Hp}{w:World}(t0:ts[0]? =some dt)(a0:args[0]? =some cd)(a1:args[1]? =some cx)
    (ha:q7E (Ctx.of P gl eqT) dt d x h=some (v,h')) (hd:VRel P F m d cd) (hx:VRel P F m x cx) (hr:HRel P F m h w):
    ∃cv w',(Builtin.copy_ ts ty args).run P w= .ok cv w'∧Step P F m h h' w w' m∧VRel P F m v cv:=by
  unfold q7E at ha
  split at ha
  case h_2=>cases ha
  rename_i e size isAgg zero zeroOk bytes comparable zv n k hst hn hk
  have hu:=q0A hst
  dsimp only at hu
  split at ha
  ·cases ha
  rename_i y hy
  obtain⟨i,hi,e1,e2,_⟩:=q6v hy
  have hL:=x5d (w:=w) hk hx
  have hmin:(bif Nat.ble k n then k else n)=Nat.min k n:=by
    cases hkn:Nat.ble k n with
    |true=>have:=Y0J hkn;simp only[Y0V];exact(Nat.min_eq_left this).symm
    | false=>
      have:n≤k:=by
        rcases Y1w n k with h'|h'
        ·omega
        · have:Nat.ble k n=true:=Y1x h'
          rw[this]at hkn;cases hkn
      simp only[Y1b];exact(Nat.min_eq_right this).symm
  dsimp only at ha
  rw[hmin]at ha
  split at ha
  · rename_i new hnew
    obtain⟨hb,he⟩:=q0i ha
    cases he
    obtain rfl:=hd.nilsl_inv
    cases hn
    obtain⟨arr,hF,hnl⟩:=q4Q (w0:=w) hnew hx hr rfl
    rw[e1]at hF
    refine⟨.int .i64 (.ofNat (Nat.min k 0)),w,?_,Y0t hr rfl (Y0r w),.int _ _⟩
    simp[Builtin.copy_,t0,a0,a1,run_underlying hu,sizeOf,typeInfo,hi,hL,goInt]at hF⊢
    simp[hF]
  · rename_i new r o len cap es ex hnew
    split at ha
    case h_2=>cases ha
    rename_i e' ccs hg
    obtain⟨hc,he⟩:=q0i ha
    cases he
    obtain⟨c1,hc⟩:=q0p hc
    obtain⟨c2,hc⟩:=q0p hc
    obtain⟨c3,c4⟩:=q0p hc
    obtain rfl:=Y0P c2
    have c4:o+new.length≤ccs.length:=Y0J c4
    obtain⟨b,z,ccap,hm,rfl,h1,h2,h3,h4⟩:=hd.sl_inv
    cases hn
    obtain⟨arr,hF,hnl⟩:=q4Q (w0:=w) hnew hx hr rfl
    rw[e1]at hF
    obtain⟨w',hst',hstep⟩:=Step.cells hr hg hm hnl c1 c4
    refine⟨.int .i64 (.ofNat (Nat.min k n)),w',?_,hstep,.int _ _⟩
    simp[Builtin.copy_,t0,a0,a1,run_underlying hu,sizeOf,typeInfo,hi,hL,hF,hst',goInt]
  ·cases ha
end
end Go.Ax
