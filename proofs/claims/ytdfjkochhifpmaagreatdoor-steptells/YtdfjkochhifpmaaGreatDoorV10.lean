import Derived.Test.YtdfjkochhifpmaaGreatDoorV09
set_option linter.unusedSimpArgs false
set_option linter.unusedVariables false
noncomputable section
namespace Go.Ax
open Go.Proofs
variable{gl:Nat→AV}{K:Knob}
theorem ti2:(Ctx.of Tryz.prog gl K).ti 2=some {desc:=.int .i64,size:=1,isAgg:=false,zero:=[.int .i64 0],zeroOk:=true,bytes:=8,comparable:=true,zv:=.int .i64 0}:=(q4F (by kernel_rfl)).trans (by kernel_rfl)
attribute [simp] ti2
theorem ti3:(Ctx.of Tryz.prog gl K).ti 3=some {desc:=.int .i64,size:=1,isAgg:=false,zero:=[.int .i64 0],zeroOk:=true,bytes:=8,comparable:=true,zv:=.int .i64 0}:=(q4F (by kernel_rfl)).trans (by kernel_rfl)
attribute [simp] ti3
theorem ti4:(Ctx.of Tryz.prog gl K).ti 4=some {desc:=.bool,size:=1,isAgg:=false,zero:=[.bool false],zeroOk:=true,bytes:=1,comparable:=true,zv:=.bool false}:=(q4F (by kernel_rfl)).trans (by kernel_rfl)
attribute [simp] ti4
theorem ti5:(Ctx.of Tryz.prog gl K).ti 5=some {desc:=.int .u8,size:=1,isAgg:=false,zero:=[.int .u8 0],zeroOk:=true,bytes:=1,comparable:=true,zv:=.int .u8 0}:=(q4F (by kernel_rfl)).trans (by kernel_rfl)
attribute [simp] ti5
theorem ti22:(Ctx.of Tryz.prog gl K).ti 22=some {desc:=.slice 95,size:=1,isAgg:=false,zero:=[.nilsl],zeroOk:=true,bytes:=24,comparable:=false,zv:=.nilsl}:=(q4F (by kernel_rfl)).trans (by kernel_rfl)
attribute [simp] ti22
theorem ti23:(Ctx.of Tryz.prog gl K).ti 23=some {desc:=.slice 56,size:=1,isAgg:=false,zero:=[.nilsl],zeroOk:=true,bytes:=24,comparable:=false,zv:=.nilsl}:=(q4F (by kernel_rfl)).trans (by kernel_rfl)
attribute [simp] ti23
theorem ti25:(Ctx.of Tryz.prog gl K).ti 25=some {desc:=.struct #[{name:= "Types",type:=22,offset:=0,embedded:=false,tag:= "",pkgPath:= "",byteOffset:=0},{name:= "Funcs",type:=23,offset:=1,embedded:=false,tag:= "",pkgPath:= "",byteOffset:=24}],size:=2,isAgg:=true,zero:=[.nilsl,.nilsl],zeroOk:=true,bytes:=48,comparable:=false,zv:=.agg [.nilsl,.nilsl]}:=(q4F (by kernel_rfl)).trans (by kernel_rfl)
attribute [simp] ti25
theorem ti28:(Ctx.of Tryz.prog gl K).ti 28=some {desc:=.slice 68,size:=1,isAgg:=false,zero:=[.nilsl],zeroOk:=true,bytes:=24,comparable:=false,zv:=.nilsl}:=(q4F (by kernel_rfl)).trans (by kernel_rfl)
attribute [simp] ti28
theorem ti29:(Ctx.of Tryz.prog gl K).ti 29=some {desc:=.int .i64,size:=1,isAgg:=false,zero:=[.int .i64 0],zeroOk:=true,bytes:=8,comparable:=true,zv:=.int .i64 0}:=(q4F (by kernel_rfl)).trans (by kernel_rfl)
attribute [simp] ti29
theorem ti37:(Ctx.of Tryz.prog gl K).ti 37=some {desc:=.slice 3,size:=1,isAgg:=false,zero:=[.nilsl],zeroOk:=true,bytes:=24,comparable:=false,zv:=.nilsl}:=(q4F (by kernel_rfl)).trans (by kernel_rfl)
attribute [simp] ti37
theorem ti39:(Ctx.of Tryz.prog gl K).ti 39=some {desc:=.struct #[{name:= "Op",type:=5,offset:=0,embedded:=false,tag:= "",pkgPath:= "",byteOffset:=0},{name:= "Type",type:=3,offset:=1,embedded:=false,tag:= "",pkgPath:= "",byteOffset:=8},{name:= "A",type:=3,offset:=2,embedded:=false,tag:= "",pkgPath:= "",byteOffset:=16},{name:= "B",type:=3,offset:=3,embedded:=false,tag:= "",pkgPath:= "",byteOffset:=24},{name:= "N",type:=2,offset:=4,embedded:=false,tag:= "",pkgPath:= "",byteOffset:=32},{name:= "Args",type:=37,offset:=5,embedded:=false,tag:= "",pkgPath:= "",byteOffset:=40},{name:= "From",type:=37,offset:=6,embedded:=false,tag:= "",pkgPath:= "",byteOffset:=64}],size:=7,isAgg:=true,zero:=[.int .u8 0,.int .i64 0,.int .i64 0,.int .i64 0,.int .i64 0,.nilsl,.nilsl],zeroOk:=true,bytes:=88,comparable:=false,zv:=.agg [.int .u8 0,.int .i64 0,.int .i64 0,.int .i64 0,.int .i64 0,.nilsl,.nilsl]}:=(q4F (by kernel_rfl)).trans (by kernel_rfl)
attribute [simp] ti39
theorem ti54:(Ctx.of Tryz.prog gl K).ti 54=some {desc:=.slice 61,size:=1,isAgg:=false,zero:=[.nilsl],zeroOk:=true,bytes:=24,comparable:=false,zv:=.nilsl}:=(q4F (by kernel_rfl)).trans (by kernel_rfl)
attribute [simp] ti54
theorem ti56:(Ctx.of Tryz.prog gl K).ti 56=some {desc:=.struct #[{name:= "Sig",type:=3,offset:=0,embedded:=false,tag:= "",pkgPath:= "",byteOffset:=0},{name:= "Blocks",type:=54,offset:=1,embedded:=false,tag:= "",pkgPath:= "",byteOffset:=8}],size:=2,isAgg:=true,zero:=[.int .i64 0,.nilsl],zeroOk:=true,bytes:=32,comparable:=false,zv:=.agg [.int .i64 0,.nilsl]}:=(q4F (by kernel_rfl)).trans (by kernel_rfl)
attribute [simp] ti56
theorem ti57:(Ctx.of Tryz.prog gl K).ti 57=some {desc:=.slice 39,size:=1,isAgg:=false,zero:=[.nilsl],zeroOk:=true,bytes:=24,comparable:=false,zv:=.nilsl}:=(q4F (by kernel_rfl)).trans (by kernel_rfl)
attribute [simp] ti57
theorem ti59:(Ctx.of Tryz.prog gl K).ti 59=some {desc:=.struct #[{name:= "Kind",type:=5,offset:=0,embedded:=false,tag:= "",pkgPath:= "",byteOffset:=0},{name:= "A",type:=3,offset:=1,embedded:=false,tag:= "",pkgPath:= "",byteOffset:=8},{name:= "To",type:=3,offset:=2,embedded:=false,tag:= "",pkgPath:= "",byteOffset:=16},{name:= "Else",type:=3,offset:=3,embedded:=false,tag:= "",pkgPath:= "",byteOffset:=24}],size:=4,isAgg:=true,zero:=[.int .u8 0,.int .i64 0,.int .i64 0,.int .i64 0],zeroOk:=true,bytes:=32,comparable:=true,zv:=.agg [.int .u8 0,.int .i64 0,.int .i64 0,.int .i64 0]}:=(q4F (by kernel_rfl)).trans (by kernel_rfl)
attribute [simp] ti59
theorem ti61:(Ctx.of Tryz.prog gl K).ti 61=some {desc:=.struct #[{name:= "Ins",type:=57,offset:=0,embedded:=false,tag:= "",pkgPath:= "",byteOffset:=0},{name:= "End",type:=59,offset:=1,embedded:=false,tag:= "",pkgPath:= "",byteOffset:=24}],size:=5,isAgg:=true,zero:=[.nilsl,.int .u8 0,.int .i64 0,.int .i64 0,.int .i64 0],zeroOk:=true,bytes:=56,comparable:=false,zv:=.agg [.nilsl,.int .u8 0,.int .i64 0,.int .i64 0,.int .i64 0]}:=(q4F (by kernel_rfl)).trans (by kernel_rfl)
attribute [simp] ti61
theorem ti68:(Ctx.of Tryz.prog gl K).ti 68=some {desc:=.struct #[{name:= "Func",type:=3,offset:=0,embedded:=false,tag:= "",pkgPath:= "",byteOffset:=0},{name:= "Reg",type:=3,offset:=1,embedded:=false,tag:= "",pkgPath:= "",byteOffset:=8},{name:= "Type",type:=3,offset:=2,embedded:=false,tag:= "",pkgPath:= "",byteOffset:=16}],size:=3,isAgg:=true,zero:=[.int .i64 0,.int .i64 0,.int .i64 0],zeroOk:=true,bytes:=24,comparable:=true,zv:=.agg [.int .i64 0,.int .i64 0,.int .i64 0]}:=(q4F (by kernel_rfl)).trans (by kernel_rfl)
attribute [simp] ti68
theorem ti84:(Ctx.of Tryz.prog gl K).ti 84=some {desc:=.map 3 3,size:=1,isAgg:=false,zero:=[.nilmap],zeroOk:=true,bytes:=8,comparable:=false,zv:=.nilmap}:=(q4F (by kernel_rfl)).trans (by kernel_rfl)
attribute [simp] ti84
theorem ti91:(Ctx.of Tryz.prog gl K).ti 91=some {desc:=.slice 4,size:=1,isAgg:=false,zero:=[.nilsl],zeroOk:=true,bytes:=24,comparable:=false,zv:=.nilsl}:=(q4F (by kernel_rfl)).trans (by kernel_rfl)
attribute [simp] ti91
theorem ti95:(Ctx.of Tryz.prog gl K).ti 95=some {desc:=.struct #[{name:= "Kind",type:=5,offset:=0,embedded:=false,tag:= "",pkgPath:= "",byteOffset:=0},{name:= "Elem",type:=3,offset:=1,embedded:=false,tag:= "",pkgPath:= "",byteOffset:=8},{name:= "Many",type:=3,offset:=2,embedded:=false,tag:= "",pkgPath:= "",byteOffset:=16},{name:= "Parts",type:=37,offset:=3,embedded:=false,tag:= "",pkgPath:= "",byteOffset:=24}],size:=4,isAgg:=true,zero:=[.int .u8 0,.int .i64 0,.int .i64 0,.nilsl],zeroOk:=true,bytes:=48,comparable:=false,zv:=.agg [.int .u8 0,.int .i64 0,.int .i64 0,.nilsl]}:=(q4F (by kernel_rfl)).trans (by kernel_rfl)
attribute [simp] ti95
theorem ti130:(Ctx.of Tryz.prog gl K).ti 130=some {desc:=.pointer 174,size:=1,isAgg:=false,zero:=[.nilptr],zeroOk:=true,bytes:=8,comparable:=true,zv:=.nilptr}:=(q4F (by kernel_rfl)).trans (by kernel_rfl)
attribute [simp] ti130
theorem ti134:(Ctx.of Tryz.prog gl K).ti 134=some {desc:=.struct #[{name:= "f",type:=3,offset:=0,embedded:=false,tag:= "",pkgPath:= "fescue/sound",byteOffset:=0},{name:= "block",type:=3,offset:=1,embedded:=false,tag:= "",pkgPath:= "fescue/sound",byteOffset:=8},{name:= "Errno",type:=29,offset:=2,embedded:=true,tag:= "",pkgPath:= "",byteOffset:=16}],size:=3,isAgg:=true,zero:=[.int .i64 0,.int .i64 0,.int .i64 0],zeroOk:=true,bytes:=24,comparable:=true,zv:=.agg [.int .i64 0,.int .i64 0,.int .i64 0]}:=(q4F (by kernel_rfl)).trans (by kernel_rfl)
attribute [simp] ti134
theorem ti149:(Ctx.of Tryz.prog gl K).ti 149=some {desc:=.struct #[{name:= "types",type:=3,offset:=0,embedded:=false,tag:= "",pkgPath:= "fescue/shape",byteOffset:=0},{name:= "funcs",type:=3,offset:=1,embedded:=false,tag:= "",pkgPath:= "fescue/shape",byteOffset:=8},{name:= "regs",type:=3,offset:=2,embedded:=false,tag:= "",pkgPath:= "fescue/shape",byteOffset:=16},{name:= "blocks",type:=3,offset:=3,embedded:=false,tag:= "",pkgPath:= "fescue/shape",byteOffset:=24}],size:=4,isAgg:=true,zero:=[.int .i64 0,.int .i64 0,.int .i64 0,.int .i64 0],zeroOk:=true,bytes:=32,comparable:=true,zv:=.agg [.int .i64 0,.int .i64 0,.int .i64 0,.int .i64 0]}:=(q4F (by kernel_rfl)).trans (by kernel_rfl)
attribute [simp] ti149
theorem ti151:(Ctx.of Tryz.prog gl K).ti 151=some {desc:=.func #[39] #[4] false,size:=1,isAgg:=false,zero:=[.nilfn],zeroOk:=true,bytes:=8,comparable:=false,zv:=.nilfn}:=(q4F (by kernel_rfl)).trans (by kernel_rfl)
attribute [simp] ti151
theorem ti167:(Ctx.of Tryz.prog gl K).ti 167=some {desc:=.struct #[{name:= "a",type:=4,offset:=0,embedded:=false,tag:= "",pkgPath:= "fescue/shape",byteOffset:=0},{name:= "b",type:=4,offset:=1,embedded:=false,tag:= "",pkgPath:= "fescue/shape",byteOffset:=1},{name:= "n",type:=4,offset:=2,embedded:=false,tag:= "",pkgPath:= "fescue/shape",byteOffset:=2},{name:= "args",type:=4,offset:=3,embedded:=false,tag:= "",pkgPath:= "fescue/shape",byteOffset:=3},{name:= "from",type:=4,offset:=4,embedded:=false,tag:= "",pkgPath:= "fescue/shape",byteOffset:=4},{name:= "answer",type:=4,offset:=5,embedded:=false,tag:= "",pkgPath:= "fescue/shape",byteOffset:=5}],size:=6,isAgg:=true,zero:=[.bool false,.bool false,.bool false,.bool false,.bool false,.bool false],zeroOk:=true,bytes:=6,comparable:=true,zv:=.agg [.bool false,.bool false,.bool false,.bool false,.bool false,.bool false]}:=(q4F (by kernel_rfl)).trans (by kernel_rfl)
attribute [simp] ti167
theorem ti172:(Ctx.of Tryz.prog gl K).ti 172=some {desc:=.slice 176,size:=1,isAgg:=false,zero:=[.nilsl],zeroOk:=true,bytes:=24,comparable:=false,zv:=.nilsl}:=(q4F (by kernel_rfl)).trans (by kernel_rfl)
attribute [simp] ti172
theorem ti174:(Ctx.of Tryz.prog gl K).ti 174=some {desc:=.struct #[{name:= "p",type:=25,offset:=0,embedded:=false,tag:= "",pkgPath:= "fescue/sound",byteOffset:=0},{name:= "f",type:=3,offset:=2,embedded:=false,tag:= "",pkgPath:= "fescue/sound",byteOffset:=48},{name:= "kinds",type:=37,offset:=3,embedded:=false,tag:= "",pkgPath:= "fescue/sound",byteOffset:=56},{name:= "places",type:=172,offset:=4,embedded:=false,tag:= "",pkgPath:= "fescue/sound",byteOffset:=80},{name:= "rulers",type:=37,offset:=5,embedded:=false,tag:= "",pkgPath:= "fescue/sound",byteOffset:=104}],size:=6,isAgg:=true,zero:=[.nilsl,.nilsl,.int .i64 0,.nilsl,.nilsl,.nilsl],zeroOk:=true,bytes:=128,comparable:=false,zv:=.agg [.nilsl,.nilsl,.int .i64 0,.nilsl,.nilsl,.nilsl]}:=(q4F (by kernel_rfl)).trans (by kernel_rfl)
attribute [simp] ti174
theorem ti176:(Ctx.of Tryz.prog gl K).ti 176=some {desc:=.array 2 3,size:=2,isAgg:=true,zero:=[.int .i64 0,.int .i64 0],zeroOk:=true,bytes:=16,comparable:=true,zv:=.agg [.int .i64 0,.int .i64 0]}:=(q4F (by kernel_rfl)).trans (by kernel_rfl)
attribute [simp] ti176
theorem ti225:(Ctx.of Tryz.prog gl K).ti 225=some {desc:=.array 16 3,size:=16,isAgg:=true,zero:=[.int .i64 0,.int .i64 0,.int .i64 0,.int .i64 0,.int .i64 0,.int .i64 0,.int .i64 0,.int .i64 0,.int .i64 0,.int .i64 0,.int .i64 0,.int .i64 0,.int .i64 0,.int .i64 0,.int .i64 0,.int .i64 0],zeroOk:=true,bytes:=128,comparable:=true,zv:=.agg [.int .i64 0,.int .i64 0,.int .i64 0,.int .i64 0,.int .i64 0,.int .i64 0,.int .i64 0,.int .i64 0,.int .i64 0,.int .i64 0,.int .i64 0,.int .i64 0,.int .i64 0,.int .i64 0,.int .i64 0,.int .i64 0]}:=(q4F (by kernel_rfl)).trans (by kernel_rfl)
attribute [simp] ti225
theorem ti227:(Ctx.of Tryz.prog gl K).ti 227=some {desc:=.struct #[{name:= "next",type:=225,offset:=0,embedded:=false,tag:= "",pkgPath:= "fescue/dom",byteOffset:=0},{name:= "order",type:=225,offset:=16,embedded:=false,tag:= "",pkgPath:= "fescue/dom",byteOffset:=128}],size:=32,isAgg:=true,zero:=[.int .i64 0,.int .i64 0,.int .i64 0,.int .i64 0,.int .i64 0,.int .i64 0,.int .i64 0,.int .i64 0,.int .i64 0,.int .i64 0,.int .i64 0,.int .i64 0,.int .i64 0,.int .i64 0,.int .i64 0,.int .i64 0,.int .i64 0,.int .i64 0,.int .i64 0,.int .i64 0,.int .i64 0,.int .i64 0,.int .i64 0,.int .i64 0,.int .i64 0,.int .i64 0,.int .i64 0,.int .i64 0,.int .i64 0,.int .i64 0,.int .i64 0,.int .i64 0],zeroOk:=true,bytes:=256,comparable:=true,zv:=.agg [.int .i64 0,.int .i64 0,.int .i64 0,.int .i64 0,.int .i64 0,.int .i64 0,.int .i64 0,.int .i64 0,.int .i64 0,.int .i64 0,.int .i64 0,.int .i64 0,.int .i64 0,.int .i64 0,.int .i64 0,.int .i64 0,.int .i64 0,.int .i64 0,.int .i64 0,.int .i64 0,.int .i64 0,.int .i64 0,.int .i64 0,.int .i64 0,.int .i64 0,.int .i64 0,.int .i64 0,.int .i64 0,.int .i64 0,.int .i64 0,.int .i64 0,.int .i64 0]}:=(q4F (by kernel_rfl)).trans (by kernel_rfl)
attribute [simp] ti227
theorem ti232:(Ctx.of Tryz.prog gl K).ti 232=some {desc:=.struct #[{name:= "l",type:=54,offset:=0,embedded:=false,tag:= "",pkgPath:= "fescue/flow",byteOffset:=0},{name:= "begun",type:=84,offset:=1,embedded:=false,tag:= "",pkgPath:= "fescue/flow",byteOffset:=24},{name:= "done",type:=37,offset:=2,embedded:=false,tag:= "",pkgPath:= "fescue/flow",byteOffset:=32}],size:=3,isAgg:=true,zero:=[.nilsl,.nilmap,.nilsl],zeroOk:=true,bytes:=56,comparable:=false,zv:=.agg [.nilsl,.nilmap,.nilsl]}:=(q4F (by kernel_rfl)).trans (by kernel_rfl)
attribute [simp] ti232
theorem ti257:(Ctx.of Tryz.prog gl K).ti 257=some {desc:=.array 16 37,size:=16,isAgg:=true,zero:=[.nilsl,.nilsl,.nilsl,.nilsl,.nilsl,.nilsl,.nilsl,.nilsl,.nilsl,.nilsl,.nilsl,.nilsl,.nilsl,.nilsl,.nilsl,.nilsl],zeroOk:=true,bytes:=384,comparable:=false,zv:=.agg [.nilsl,.nilsl,.nilsl,.nilsl,.nilsl,.nilsl,.nilsl,.nilsl,.nilsl,.nilsl,.nilsl,.nilsl,.nilsl,.nilsl,.nilsl,.nilsl]}:=(q4F (by kernel_rfl)).trans (by kernel_rfl)
attribute [simp] ti257
end Go.Ax
noncomputable section
namespace Go.Ax
open Go.Proofs
variable{gl:Nat→AV}{K:Knob}
abbrev q6o:TypeId:=167
abbrev q3J:TypeId:=149
abbrev x8y:TypeId:=151
abbrev q3G:Nat:=0
theorem ti220:(Ctx.of Tryz.prog gl K).ti 220=some {desc:=.array 23 167,size:=138,isAgg:=true,zero:=[.bool false,.bool false,.bool false,.bool false,.bool false,.bool false,.bool false,.bool false,.bool false,.bool false,.bool false,.bool false,.bool false,.bool false,.bool false,.bool false,.bool false,.bool false,.bool false,.bool false,.bool false,.bool false,.bool false,.bool false,.bool false,.bool false,.bool false,.bool false,.bool false,.bool false,.bool false,.bool false,.bool false,.bool false,.bool false,.bool false,.bool false,.bool false,.bool false,.bool false,.bool false,.bool false,.bool false,.bool false,.bool false,.bool false,.bool false,.bool false,.bool false,.bool false,.bool false,.bool false,.bool false,.bool false,.bool false,.bool false,.bool false,.bool false,.bool false,.bool false,.bool false,.bool false,.bool false,.bool false,.bool false,.bool false,.bool false,.bool false,.bool false,.bool false,.bool false,.bool false,.bool false,.bool false,.bool false,.bool false,.bool false,.bool false,.bool false,.bool false,.bool false,.bool false,.bool false,.bool false,.bool false,.bool false,.bool false,.bool false,.bool false,.bool false,.bool false,.bool false,.bool false,.bool false,.bool false,.bool false,.bool false,.bool false,.bool false,.bool false,.bool false,.bool false,.bool false,.bool false,.bool false,.bool false,.bool false,.bool false,.bool false,.bool false,.bool false,.bool false,.bool false,.bool false,.bool false,.bool false,.bool false,.bool false,.bool false,.bool false,.bool false,.bool false,.bool false,.bool false,.bool false,.bool false,.bool false,.bool false,.bool false,.bool false,.bool false,.bool false,.bool false,.bool false,.bool false,.bool false,.bool false,.bool false],zeroOk:=true,bytes:=138,comparable:=true,zv:=.agg [.bool false,.bool false,.bool false,.bool false,.bool false,.bool false,.bool false,.bool false,.bool false,.bool false,.bool false,.bool false,.bool false,.bool false,.bool false,.bool false,.bool false,.bool false,.bool false,.bool false,.bool false,.bool false,.bool false,.bool false,.bool false,.bool false,.bool false,.bool false,.bool false,.bool false,.bool false,.bool false,.bool false,.bool false,.bool false,.bool false,.bool false,.bool false,.bool false,.bool false,.bool false,.bool false,.bool false,.bool false,.bool false,.bool false,.bool false,.bool false,.bool false,.bool false,.bool false,.bool false,.bool false,.bool false,.bool false,.bool false,.bool false,.bool false,.bool false,.bool false,.bool false,.bool false,.bool false,.bool false,.bool false,.bool false,.bool false,.bool false,.bool false,.bool false,.bool false,.bool false,.bool false,.bool false,.bool false,.bool false,.bool false,.bool false,.bool false,.bool false,.bool false,.bool false,.bool false,.bool false,.bool false,.bool false,.bool false,.bool false,.bool false,.bool false,.bool false,.bool false,.bool false,.bool false,.bool false,.bool false,.bool false,.bool false,.bool false,.bool false,.bool false,.bool false,.bool false,.bool false,.bool false,.bool false,.bool false,.bool false,.bool false,.bool false,.bool false,.bool false,.bool false,.bool false,.bool false,.bool false,.bool false,.bool false,.bool false,.bool false,.bool false,.bool false,.bool false,.bool false,.bool false,.bool false,.bool false,.bool false,.bool false,.bool false,.bool false,.bool false,.bool false,.bool false,.bool false,.bool false,.bool false,.bool false]}:=(q4F (by kernel_rfl)).trans (by kernel_rfl)
attribute [simp] ti220
end Go.Ax
noncomputable section
namespace Go.Ax
open Go.Proofs
attribute [local irreducible] TW TO CallsT PureC
variable{F:Nat→Option Obj}{gl:Nat→AV}{K:Knob}
def idxP{α:Type}(p:α→Bool)(l:List α):Int:=match l.findIdx? p with|some i=>(i:Int)|none=> -1
theorem z1x{α:Type}(p:α→Bool)(l:List α):decide (0≤idxP p l)=l.any p:=by
  unfold idxP
  cases h:l.findIdx? p with
  | none=>
    have:=Y3g.1 h
    have h2:l.any p=false:=by rw[Y2n];intro x hx;simp[this x hx]
    rw[h2];rfl
  | some i=>
    have h2:l.any p=true:=by
      obtain⟨h1,h2,_⟩:=Y3h.1 h
      exact Y2m.2 ⟨_,Y0H h1,h2⟩
    rw[h2];simp
theorem z8f(hP:POk Tryz.prog F gl K)(xs:Sl Int)(g:FuncId)(cap:List AV)(p:Int→Bool)(hg:IsFn Tryz.prog g)(h:Hp)(hlen:xs.list.length<1000000)
  (hc:∀x∈xs.list,∀h',Wid h h'→Qt Tryz.prog F h' (.bool (p x)) g ([.int .i64 x]++cap)):
  Qt Tryz.prog F h (.int .i64 (idxP p xs.list)) q1P [xs.av cI,.fn (.func g) [] cap]:=by
 refine Y2y hP q0f q4E rfl rfl ?_
 refine Y2v (Y2A hP (by simp<;>rfl) ?_)
 dsimp only[goK,q0a,q0c,q0d]
 refine Y2v (Y2v (Y2A hP (by simp<;>rfl) ?_))
 dsimp only[goK,q0a,q0c,q0d]
 refine Y2x (Y2H (fun i:Nat=>[(0,xs.av cI),(1,.fn (.func g) [] cap),(7,.int .i64 xs.list.length),(8,.int .i64 (i:Nat))]) (fun i k=>i≤xs.list.length∧(∀j (hj:j<i) (hl:j<xs.list.length),p (xs.list[j])=false)∧Wid h k) (fun i=>xs.list.length-i) 0 (by repeat' first|exact q0h|refine q0e (by simp) ?_) ⟨Y0E _,fun j hj=>absurd hj (Y2K _),.refl _⟩ ?_)
 rintro i k ⟨hi,hno,hw⟩
 refine Y2v (Y2A hP (by simp<;>rfl) ?_)
 dsimp only[goK,q0a,q0c,q0d]
 refine Y2v (Y2w hP rfl (fun hc'=>Y2s ?_) (fun hc'=>Y2t ?_))
 ·have hi':i<xs.list.length:=by simpa using hc'
  have hx:xs.list[i]? =some xs.list[i]:=Y0n hi'
  have hav:=q0j (e:=cI) (show 0<xs.list.length by omega)
  dsimp only[q0a]
  refine Y2v (Y2x (Y2v (Y2A hP (by simp<;>rfl) ?_)))
  dsimp only[goK,q0a]
  refine Y2v (Y2A hP (by simp[cI,hx,hav]<;>rfl) ?_)
  dsimp only[goK,q0a,q0c,q0d]
  refine Y2N hP hg (hc xs.list[i] (Y0H hi') k hw) (by simp) rfl rfl rfl rfl fun k' hk'=> ?_
  refine Y2B hP (by simp<;>rfl) ?_
  dsimp only[goK,q0a,q0c,q0d]
  refine Y2w hP rfl (fun hp=> ?_) (fun hp=>Y2s ?_)
  ·refine Y2v (Y2A hP (by simp<;>rfl) ?_)
   dsimp only[goK,q0a,q0c,q0d]
   refine Y2u ⟨.inr rfl,k',_,rfl,rfl,?_,hw.trans hk'⟩
   simp only[q0q,idxP]
   rw[Y3h.2 ⟨hi',hp,fun j hj=>by simp[hno j hj (by omega)]⟩]
  ·dsimp only[q0c,q0a]
   refine Y2A hP (by simp;simp (disch:=omega)only[bAdd,bSub];simp<;>rfl) ?_
   dsimp only[goK,q0a,q0c,q0d]
   refine⟨i+1,by omega,rfl,?_,by omega,fun j hj hl=> ?_,hw.trans hk'⟩
   ·exact zLf @hav
   ·by_cases he:j=i
    ·subst he;exact hp
    ·exact hno j (by omega) hl
 ·have hi':¬i<xs.list.length:=by simpa using hc'
  dsimp only[q0a,q0d,q0c]
  refine Y2v (Y2A hP (by simp<;>rfl) ?_)
  dsimp only[goK,q0a,q0c,q0d]
  refine Y2u ⟨.inr rfl,k,_,rfl,rfl,?_,hw⟩
  simp only[q0q,idxP]
  rw[Y3g.2 fun x hx=>by
   obtain⟨j,hj,rfl⟩:=Y0F hx
   exact hno j (by omega) hj]
theorem q4v(hP:POk Tryz.prog F gl K)(xs:Sl Int)(g:FuncId)(cap:List AV)(p:Int→Bool)(hg:IsFn Tryz.prog g)(h:Hp)(hlen:xs.list.length<1000000)
  (hc:∀x∈xs.list,∀h',Wid h h'→Qt Tryz.prog F h' (.bool (p x)) g ([.int .i64 x]++cap)):
  Qt Tryz.prog F h (.bool (xs.list.any p)) q1E [xs.av cI,.fn (.func g) [] cap]:=by
 refine Y2y hP q0f q3E rfl rfl ?_
 refine Y2v (Y2A hP (by simp<;>rfl) ?_)
 dsimp only[goK,q0a,q0c,q0d]
 refine Y2v (Y2A hP (by simp<;>rfl) ?_)
 dsimp only[goK,q0a,q0c,q0d]
 refine Y2N hP q4D (z8f hP xs g cap p hg h hlen hc) (by simp) rfl rfl rfl rfl fun k hk=> ?_
 refine Y2B hP (by simp<;>rfl) ?_
 dsimp only[goK,q0a,q0c,q0d]
 refine Y2u ⟨.inr rfl,k,_,rfl,rfl,?_,hk⟩
 rw[←z1x];rfl
theorem z7I(hP:POk Tryz.prog F gl K)(xs:Sl LFunc)(g:FuncId)(cap:List AV)(p:LFunc→Bool)(hg:IsFn Tryz.prog g)(h:Hp)(hlen:xs.list.length<1000000)
  (hc:∀x∈xs.list,∀h',Wid h h'→Qt Tryz.prog F h' (.bool (p x)) g ([.agg (LFunc.cells x)]++cap)):
  Qt Tryz.prog F h (.int .i64 (idxP p xs.list)) q1B [xs.av LFunc.cells,.fn (.func g) [] cap]:=by
 refine Y2y hP q0f q4S rfl rfl ?_
 refine Y2v (Y2A hP (by simp<;>rfl) ?_)
 dsimp only[goK,q0a,q0c,q0d]
 refine Y2v (Y2v (Y2A hP (by simp<;>rfl) ?_))
 dsimp only[goK,q0a,q0c,q0d]
 refine Y2x (Y2H (fun i:Nat=>[(0,xs.av LFunc.cells),(1,.fn (.func g) [] cap),(7,.int .i64 xs.list.length),(8,.int .i64 (i:Nat))]) (fun i k=>i≤xs.list.length∧(∀j (hj:j<i) (hl:j<xs.list.length),p (xs.list[j])=false)∧Wid h k) (fun i=>xs.list.length-i) 0 (by repeat' first|exact q0h|refine q0e (by simp) ?_) ⟨Y0E _,fun j hj=>absurd hj (Y2K _),.refl _⟩ ?_)
 rintro i k ⟨hi,hno,hw⟩
 refine Y2v (Y2A hP (by simp<;>rfl) ?_)
 dsimp only[goK,q0a,q0c,q0d]
 refine Y2v (Y2w hP rfl (fun hc'=>Y2s ?_) (fun hc'=>Y2t ?_))
 ·have hi':i<xs.list.length:=by simpa using hc'
  have hx:xs.list[i]? =some xs.list[i]:=Y0n hi'
  have hav:=q0j (e:=LFunc.cells) (show 0<xs.list.length by omega)
  dsimp only[q0a]
  refine Y2v (Y2x (Y2v (Y2A hP (by simp<;>rfl) ?_)))
  dsimp only[goK,q0a]
  refine Y2v (Y2A hP (by simp[cI,hx,hav]<;>rfl) ?_)
  dsimp only[goK,q0a,q0c,q0d]
  refine Y2N hP hg (hc xs.list[i] (Y0H hi') k hw) (by simp) rfl rfl rfl rfl fun k' hk'=> ?_
  refine Y2B hP (by simp<;>rfl) ?_
  dsimp only[goK,q0a,q0c,q0d]
  refine Y2w hP rfl (fun hp=> ?_) (fun hp=>Y2s ?_)
  ·refine Y2v (Y2A hP (by simp<;>rfl) ?_)
   dsimp only[goK,q0a,q0c,q0d]
   refine Y2u ⟨.inr rfl,k',_,rfl,rfl,?_,hw.trans hk'⟩
   simp only[q0q,idxP]
   rw[Y3h.2 ⟨hi',hp,fun j hj=>by simp[hno j hj (by omega)]⟩]
  ·dsimp only[q0c,q0a]
   refine Y2A hP (by simp;simp (disch:=omega)only[bAdd,bSub];simp<;>rfl) ?_
   dsimp only[goK,q0a,q0c,q0d]
   refine⟨i+1,by omega,rfl,?_,by omega,fun j hj hl=> ?_,hw.trans hk'⟩
   ·exact zLf @hav
   ·by_cases he:j=i
    ·subst he;exact hp
    ·exact hno j (by omega) hl
 ·have hi':¬i<xs.list.length:=by simpa using hc'
  dsimp only[q0a,q0d,q0c]
  refine Y2v (Y2A hP (by simp<;>rfl) ?_)
  dsimp only[goK,q0a,q0c,q0d]
  refine Y2u ⟨.inr rfl,k,_,rfl,rfl,?_,hw⟩
  simp only[q0q,idxP]
  rw[Y3g.2 fun x hx=>by
   obtain⟨j,hj,rfl⟩:=Y0F hx
   exact hno j (by omega) hj]
theorem z4A(hP:POk Tryz.prog F gl K)(xs:Sl LFunc)(g:FuncId)(cap:List AV)(p:LFunc→Bool)(hg:IsFn Tryz.prog g)(h:Hp)(hlen:xs.list.length<1000000)
  (hc:∀x∈xs.list,∀h',Wid h h'→Qt Tryz.prog F h' (.bool (p x)) g ([.agg (LFunc.cells x)]++cap)):
  Qt Tryz.prog F h (.bool (xs.list.any p)) q1u [xs.av LFunc.cells,.fn (.func g) [] cap]:=by
 refine Y2y hP q0f q4n rfl rfl ?_
 refine Y2v (Y2A hP (by simp<;>rfl) ?_)
 dsimp only[goK,q0a,q0c,q0d]
 refine Y2v (Y2A hP (by simp<;>rfl) ?_)
 dsimp only[goK,q0a,q0c,q0d]
 refine Y2N hP q4R (z7I hP xs g cap p hg h hlen hc) (by simp) rfl rfl rfl rfl fun k hk=> ?_
 refine Y2B hP (by simp<;>rfl) ?_
 dsimp only[goK,q0a,q0c,q0d]
 refine Y2u ⟨.inr rfl,k,_,rfl,rfl,?_,hk⟩
 rw[←z1x];rfl
theorem z5N(hP:POk Tryz.prog F gl K)(xs:Sl LBlock)(g:FuncId)(cap:List AV)(p:LBlock→Bool)(hg:IsFn Tryz.prog g)(h:Hp)(hlen:xs.list.length<1000000)
  (hc:∀x∈xs.list,∀h',Wid h h'→Qt Tryz.prog F h' (.bool (p x)) g ([.agg (LBlock.cells x)]++cap)):
  Qt Tryz.prog F h (.int .i64 (idxP p xs.list)) q1x [xs.av LBlock.cells,.fn (.func g) [] cap]:=by
 refine Y2y hP q0f q4y rfl rfl ?_
 refine Y2v (Y2A hP (by simp<;>rfl) ?_)
 dsimp only[goK,q0a,q0c,q0d]
 refine Y2v (Y2v (Y2A hP (by simp<;>rfl) ?_))
 dsimp only[goK,q0a,q0c,q0d]
 refine Y2x (Y2H (fun i:Nat=>[(0,xs.av LBlock.cells),(1,.fn (.func g) [] cap),(7,.int .i64 xs.list.length),(8,.int .i64 (i:Nat))]) (fun i k=>i≤xs.list.length∧(∀j (hj:j<i) (hl:j<xs.list.length),p (xs.list[j])=false)∧Wid h k) (fun i=>xs.list.length-i) 0 (by repeat' first|exact q0h|refine q0e (by simp) ?_) ⟨Y0E _,fun j hj=>absurd hj (Y2K _),.refl _⟩ ?_)
 rintro i k ⟨hi,hno,hw⟩
 refine Y2v (Y2A hP (by simp<;>rfl) ?_)
 dsimp only[goK,q0a,q0c,q0d]
 refine Y2v (Y2w hP rfl (fun hc'=>Y2s ?_) (fun hc'=>Y2t ?_))
 ·have hi':i<xs.list.length:=by simpa using hc'
  have hx:xs.list[i]? =some xs.list[i]:=Y0n hi'
  have hav:=q0j (e:=LBlock.cells) (show 0<xs.list.length by omega)
  dsimp only[q0a]
  refine Y2v (Y2x (Y2v (Y2A hP (by simp<;>rfl) ?_)))
  dsimp only[goK,q0a]
  refine Y2v (Y2A hP (by simp[cI,hx,hav]<;>rfl) ?_)
  dsimp only[goK,q0a,q0c,q0d]
  refine Y2N hP hg (hc xs.list[i] (Y0H hi') k hw) (by simp) rfl rfl rfl rfl fun k' hk'=> ?_
  refine Y2B hP (by simp<;>rfl) ?_
  dsimp only[goK,q0a,q0c,q0d]
  refine Y2w hP rfl (fun hp=> ?_) (fun hp=>Y2s ?_)
  ·refine Y2v (Y2A hP (by simp<;>rfl) ?_)
   dsimp only[goK,q0a,q0c,q0d]
   refine Y2u ⟨.inr rfl,k',_,rfl,rfl,?_,hw.trans hk'⟩
   simp only[q0q,idxP]
   rw[Y3h.2 ⟨hi',hp,fun j hj=>by simp[hno j hj (by omega)]⟩]
  ·dsimp only[q0c,q0a]
   refine Y2A hP (by simp;simp (disch:=omega)only[bAdd,bSub];simp<;>rfl) ?_
   dsimp only[goK,q0a,q0c,q0d]
   refine⟨i+1,by omega,rfl,?_,by omega,fun j hj hl=> ?_,hw.trans hk'⟩
   ·exact zLf @hav
   ·by_cases he:j=i
    ·subst he;exact hp
    ·exact hno j (by omega) hl
 ·have hi':¬i<xs.list.length:=by simpa using hc'
  dsimp only[q0a,q0d,q0c]
  refine Y2v (Y2A hP (by simp<;>rfl) ?_)
  dsimp only[goK,q0a,q0c,q0d]
  refine Y2u ⟨.inr rfl,k,_,rfl,rfl,?_,hw⟩
  simp only[q0q,idxP]
  rw[Y3g.2 fun x hx=>by
   obtain⟨j,hj,rfl⟩:=Y0F hx
   exact hno j (by omega) hj]
theorem z3n(hP:POk Tryz.prog F gl K)(xs:Sl LBlock)(g:FuncId)(cap:List AV)(p:LBlock→Bool)(hg:IsFn Tryz.prog g)(h:Hp)(hlen:xs.list.length<1000000)
  (hc:∀x∈xs.list,∀h',Wid h h'→Qt Tryz.prog F h' (.bool (p x)) g ([.agg (LBlock.cells x)]++cap)):
  Qt Tryz.prog F h (.bool (xs.list.any p)) q1k [xs.av LBlock.cells,.fn (.func g) [] cap]:=by
 refine Y2y hP q0f q3R rfl rfl ?_
 refine Y2v (Y2A hP (by simp<;>rfl) ?_)
 dsimp only[goK,q0a,q0c,q0d]
 refine Y2v (Y2A hP (by simp<;>rfl) ?_)
 dsimp only[goK,q0a,q0c,q0d]
 refine Y2N hP q4x (z5N hP xs g cap p hg h hlen hc) (by simp) rfl rfl rfl rfl fun k hk=> ?_
 refine Y2B hP (by simp<;>rfl) ?_
 dsimp only[goK,q0a,q0c,q0d]
 refine Y2u ⟨.inr rfl,k,_,rfl,rfl,?_,hk⟩
 rw[←z1x];rfl
theorem z8g(hP:POk Tryz.prog F gl K)(xs:Sl LIns)(g:FuncId)(cap:List AV)(p:LIns→Bool)(hg:IsFn Tryz.prog g)(h:Hp)(hlen:xs.list.length<1000000)
  (hc:∀x∈xs.list,∀h',Wid h h'→Qt Tryz.prog F h' (.bool (p x)) g ([.agg (LIns.cells x)]++cap)):
  Qt Tryz.prog F h (.int .i64 (idxP p xs.list)) q1I [xs.av LIns.cells,.fn (.func g) [] cap]:=by
 refine Y2y hP q0f q5E rfl rfl ?_
 refine Y2v (Y2A hP (by simp<;>rfl) ?_)
 dsimp only[goK,q0a,q0c,q0d]
 refine Y2v (Y2v (Y2A hP (by simp<;>rfl) ?_))
 dsimp only[goK,q0a,q0c,q0d]
 refine Y2x (Y2H (fun i:Nat=>[(0,xs.av LIns.cells),(1,.fn (.func g) [] cap),(7,.int .i64 xs.list.length),(8,.int .i64 (i:Nat))]) (fun i k=>i≤xs.list.length∧(∀j (hj:j<i) (hl:j<xs.list.length),p (xs.list[j])=false)∧Wid h k) (fun i=>xs.list.length-i) 0 (by repeat' first|exact q0h|refine q0e (by simp) ?_) ⟨Y0E _,fun j hj=>absurd hj (Y2K _),.refl _⟩ ?_)
 rintro i k ⟨hi,hno,hw⟩
 refine Y2v (Y2A hP (by simp<;>rfl) ?_)
 dsimp only[goK,q0a,q0c,q0d]
 refine Y2v (Y2w hP rfl (fun hc'=>Y2s ?_) (fun hc'=>Y2t ?_))
 ·have hi':i<xs.list.length:=by simpa using hc'
  have hx:xs.list[i]? =some xs.list[i]:=Y0n hi'
  have hav:=q0j (e:=LIns.cells) (show 0<xs.list.length by omega)
  dsimp only[q0a]
  refine Y2v (Y2x (Y2v (Y2A hP (by simp<;>rfl) ?_)))
  dsimp only[goK,q0a]
  refine Y2v (Y2A hP (by simp[cI,hx,hav]<;>rfl) ?_)
  dsimp only[goK,q0a,q0c,q0d]
  refine Y2N hP hg (hc xs.list[i] (Y0H hi') k hw) (by simp) rfl rfl rfl rfl fun k' hk'=> ?_
  refine Y2B hP (by simp<;>rfl) ?_
  dsimp only[goK,q0a,q0c,q0d]
  refine Y2w hP rfl (fun hp=> ?_) (fun hp=>Y2s ?_)
  ·refine Y2v (Y2A hP (by simp<;>rfl) ?_)
   dsimp only[goK,q0a,q0c,q0d]
   refine Y2u ⟨.inr rfl,k',_,rfl,rfl,?_,hw.trans hk'⟩
   simp only[q0q,idxP]
   rw[Y3h.2 ⟨hi',hp,fun j hj=>by simp[hno j hj (by omega)]⟩]
  ·dsimp only[q0c,q0a]
   refine Y2A hP (by simp;simp (disch:=omega)only[bAdd,bSub];simp<;>rfl) ?_
   dsimp only[goK,q0a,q0c,q0d]
   refine⟨i+1,by omega,rfl,?_,by omega,fun j hj hl=> ?_,hw.trans hk'⟩
   ·exact zLf @hav
   ·by_cases he:j=i
    ·subst he;exact hp
    ·exact hno j (by omega) hl
 ·have hi':¬i<xs.list.length:=by simpa using hc'
  dsimp only[q0a,q0d,q0c]
  refine Y2v (Y2A hP (by simp<;>rfl) ?_)
  dsimp only[goK,q0a,q0c,q0d]
  refine Y2u ⟨.inr rfl,k,_,rfl,rfl,?_,hw⟩
  simp only[q0q,idxP]
  rw[Y3g.2 fun x hx=>by
   obtain⟨j,hj,rfl⟩:=Y0F hx
   exact hno j (by omega) hj]
theorem z5g(hP:POk Tryz.prog F gl K)(xs:Sl LIns)(g:FuncId)(cap:List AV)(p:LIns→Bool)(hg:IsFn Tryz.prog g)(h:Hp)(hlen:xs.list.length<1000000)
  (hc:∀x∈xs.list,∀h',Wid h h'→Qt Tryz.prog F h' (.bool (p x)) g ([.agg (LIns.cells x)]++cap)):
  Qt Tryz.prog F h (.bool (xs.list.any p)) q1y [xs.av LIns.cells,.fn (.func g) [] cap]:=by
 refine Y2y hP q0f q4N rfl rfl ?_
 refine Y2v (Y2A hP (by simp<;>rfl) ?_)
 dsimp only[goK,q0a,q0c,q0d]
 refine Y2v (Y2A hP (by simp<;>rfl) ?_)
 dsimp only[goK,q0a,q0c,q0d]
 refine Y2N hP q5D (z8g hP xs g cap p hg h hlen hc) (by simp) rfl rfl rfl rfl fun k hk=> ?_
 refine Y2B hP (by simp<;>rfl) ?_
 dsimp only[goK,q0a,q0c,q0d]
 refine Y2u ⟨.inr rfl,k,_,rfl,rfl,?_,hk⟩
 rw[←z1x];rfl
def q2f(most:Int)(l:List Int):Bool:=l.all fun n=>decide (0≤n)&&decide (n<most)
theorem there1(hP:POk Tryz.prog F gl K)(most n:Int)(r:Nat)(e:TypeId)(h:Hp)(hr:h.get r=some (.cells e [.int .i64 most])):
  Qt Tryz.prog F h (.bool (decide (n<0)||decide (most≤n))) q5T [.int .i64 n,.ptr r 0]:=by
 refine Y2y hP q0f z7M rfl rfl ?_
 refine Y2v (Y2A hP (by simp<;>rfl) ?_)
 dsimp only[goK,q0a,q0c,q0d]
 by_cases hn:n<0
 ·refine Y2v (Y2A hP (by simp[hn,hr]<;>rfl) ?_)
  dsimp only[goK,q0a,q0c,q0d]
  refine Y2u ⟨.inr rfl,h,_,rfl,rfl,?_,.refl _⟩
  simp[q0q,hn]
 ·refine Y2v (Y2A hP (by simp[hn,hr]<;>rfl) ?_)
  dsimp only[goK,q0a,q0c,q0d]
  refine Y2u ⟨.inr rfl,h,_,rfl,rfl,?_,.refl _⟩
  simp[q0q,hn]
def z4C(x:LType):Bool:=decide (1≤x.kind)&&decide (x.kind≤3)
theorem x3p(hP:POk Tryz.prog F gl K)(x:LType):PureC Tryz.prog F q8R [.agg x.cells] (.bool (z4C x)):=by
 refine Y2z (O:=fun v _=>v= .bool (z4C x)) (k:=1) (by simp) ?_ (fun v h e=>by subst e;rfl)
 refine Y2y hP q0f z8i rfl rfl ?_
 refine Y2v (Y2A hP (by simp<;>rfl) ?_)
 dsimp only[goK,q0a,q0c,q0d]
 by_cases h1:1≤x.kind
 ·refine Y2v (Y2A hP (by simp[h1]<;>rfl) ?_)
  dsimp only[goK,q0a,q0c,q0d]
  refine Y2u ⟨.inr rfl,_,_,rfl,rfl,?_⟩
  simp[q0q,z4C,h1]
 ·refine Y2v (Y2A hP (by simp[h1]<;>rfl) ?_)
  dsimp only[goK,q0a,q0c,q0d]
  refine Y2u ⟨.inr rfl,_,_,rfl,rfl,?_⟩
  simp[q0q,z4C,h1]
def sumN:List Int→Int
 |[]=>0
 |a::l=>a+sumN l
theorem sumN_app(l k:List Int):sumN (l++k)=sumN l+sumN k:=by
 induction l with
 |nil=>simp[sumN]
 |cons a l ih=>simp[sumN,ih];omega
theorem sumN_take(l:List Int)(i:Nat)(h:i<l.length):sumN (l.take (i+1))=sumN (l.take i)+l[i]:=by
 rw[Y1B h,sumN_app]
 simp[sumN]
theorem x4Q(c:Int)(hc:0≤c):∀(l:List Int),(∀x∈l,0≤x∧x≤c)→0≤sumN l∧sumN l≤c*l.length
  |[],_=>by simp[sumN]
  | a::l,h=>by
    obtain⟨h1,h2⟩:=x4Q c hc l fun x hx=>h x (Y0U _ hx)
    obtain⟨h3,h4⟩:=h a Y0T
    refine⟨by simp only[sumN];omega,?_⟩
    simp only[sumN,Y2i,Int.natCast_add,Int.mul_add]
    omega
theorem q1a:slT (Ctx.of Tryz.prog gl K) q0m q0x 1=true:=by simp[slT]
theorem x7J(hP:POk Tryz.prog F gl K)(h:Hp)(v:AV)(xs:List Int)(hr:RdI h v xs)(hlen:xs.length<1000000)(hx:∀x∈xs,0≤x∧x≤1000000):Qt Tryz.prog F h (.int .i64 (sumN xs)) z2I [v]:=by
 have hl:=fun g=>hr.lenOf (q1a (gl:=gl) (K:=K)) g
 dsimp only[q0m,q0x]at hl
 refine Y2y hP q0f x4y rfl rfl ?_
 refine Y2v (Y2A hP (by simp<;>rfl) ?_)
 dsimp only[goK,q0a,q0c,q0d]
 refine Y2v (Y2v (Y2A hP (by simp[hl]<;>rfl) ?_))
 dsimp only[goK,q0a,q0c,q0d]
 refine Y2x (Y2H (fun i:Nat=>[(2,.int .i64 (sumN (xs.take i))),(5,v),(6,.int .i64 xs.length),(7,.int .i64 (i:Nat))]) (fun i k=>i≤xs.length∧Wid h k) (fun i=>xs.length-i) 0 (by repeat' first|exact q0h|refine q0e (by simp[sumN]) ?_) ⟨Y0E _,.refl _⟩ ?_)
 rintro i k ⟨hi,hw⟩
 refine Y2v (Y2A hP (by simp<;>rfl) ?_)
 dsimp only[goK,q0a,q0c,q0d]
 refine Y2v (Y2w hP rfl (fun hc'=>Y2s ?_) (fun hc'=>Y2t ?_))
 ·have hi':i<xs.length:=by simpa using hc'
  obtain⟨p,hp1,hp2⟩:=(hr.wid hw).at' (q1a (gl:=gl) (K:=K)) (by simp) (q:=.i64) hi'
  have hp2:=hp2 k (.refl _)
  dsimp only[q0m,q0x]at hp1 hp2
  have h1:=x4Q 1000000 (by omega) (xs.take i) fun x hx'=>hx x (Y1z hx')
  have h2:=hx xs[i] (Y0H hi')
  have h3:(xs.take i).length≤1000000:=by simp;omega
  have h4:=sumN_take xs i hi'
  dsimp only[q0a]
  refine Y2v (Y2x (Y2v (Y2A hP (by simp[hp1,hp2]<;>rfl) ?_)))
  dsimp only[goK,q0a]
  refine Y2A hP (by simp;simp (disch:=omega)only[bAdd,bSub];simp<;>rfl) ?_
  dsimp only[goK,q0a,q0c,q0d]
  refine Y2A hP (by simp;simp (disch:=omega)only[bAdd,bSub];simp<;>rfl) ?_
  dsimp only[goK,q0a,q0c,q0d]
  refine⟨i+1,by omega,rfl,?_,by omega,hw⟩
  exact zLf @h4
 ·have hi':i=xs.length:=by simp at hc';omega
  subst hi'
  dsimp only[q0a,q0d,q0c]
  refine Y2v (Y2A hP (by simp<;>rfl) ?_)
  dsimp only[goK,q0a,q0c,q0d]
  refine Y2u ⟨.inr rfl,k,_,rfl,rfl,?_,hw⟩
  simp[q0q]
def q2Q(x:LType):Bool:=
 if x.kind=1 then decide (x.elem=0)&&(decide (x.many=0)&&decide (x.parts.list.length=0))
 else if x.kind=2 then decide (x.many=0)&&decide (x.parts.list.length=0)
 else if x.kind=4 then decide (x.elem=0)&&decide (x.many=0)
 else if x.kind=3 then decide (x.many=0)
 else if x.kind=5 then decide (x.parts.list.length=0)else true
theorem x6o(hP:POk Tryz.prog F gl K)(x:LType):PureC Tryz.prog F q9N [.agg x.cells] (.bool (q2Q x)):=by
 refine Y2z (O:=fun v _=>v= .bool (q2Q x)) (k:=1) (by simp) ?_ (fun v h e=>by subst e;rfl)
 refine Y2y hP q0f x0i rfl rfl ?_
 by_cases h1:x.kind=1
 ·by_cases he:x.elem=0
  ·by_cases hm:x.many=0
   ·repeat' first|refine Y2v ?_|refine Y2x ?_|refine Y2t ?_|refine Y2I hP rfl ?_|(refine Y2A hP (by simp[h1,he,hm]<;>rfl) ?_;dsimp only[goK])|(refine Y2L hP [] (fun e he=>by cases he) (by kernel_rfl) (by simp[h1,he,hm]<;>rfl) ?_;dsimp only)|simp only[q0a,q0c,q0d,↓reduceIte,Nat.reduceEqDiff,reduceCtorEq]
    refine Y2u ⟨.inr rfl,_,_,rfl,rfl,?_⟩
    simp[q0q,q2Q,h1,he,hm]
   ·repeat' first|refine Y2v ?_|refine Y2x ?_|refine Y2t ?_|refine Y2I hP rfl ?_|(refine Y2A hP (by simp[h1,he,hm]<;>rfl) ?_;dsimp only[goK])|(refine Y2L hP [] (fun e he=>by cases he) (by kernel_rfl) (by simp[h1,he,hm]<;>rfl) ?_;dsimp only)|simp only[q0a,q0c,q0d,↓reduceIte,Nat.reduceEqDiff,reduceCtorEq]
    refine Y2u ⟨.inr rfl,_,_,rfl,rfl,?_⟩
    simp[q0q,q2Q,h1,he,hm]
  ·by_cases hm:x.many=0
   ·repeat' first|refine Y2v ?_|refine Y2x ?_|refine Y2t ?_|refine Y2I hP rfl ?_|(refine Y2A hP (by simp[h1,he,hm]<;>rfl) ?_;dsimp only[goK])|(refine Y2L hP [] (fun e he=>by cases he) (by kernel_rfl) (by simp[h1,he,hm]<;>rfl) ?_;dsimp only)|simp only[q0a,q0c,q0d,↓reduceIte,Nat.reduceEqDiff,reduceCtorEq]
    refine Y2u ⟨.inr rfl,_,_,rfl,rfl,?_⟩
    simp[q0q,q2Q,h1,he,hm]
   ·repeat' first|refine Y2v ?_|refine Y2x ?_|refine Y2t ?_|refine Y2I hP rfl ?_|(refine Y2A hP (by simp[h1,he,hm]<;>rfl) ?_;dsimp only[goK])|(refine Y2L hP [] (fun e he=>by cases he) (by kernel_rfl) (by simp[h1,he,hm]<;>rfl) ?_;dsimp only)|simp only[q0a,q0c,q0d,↓reduceIte,Nat.reduceEqDiff,reduceCtorEq]
    refine Y2u ⟨.inr rfl,_,_,rfl,rfl,?_⟩
    simp[q0q,q2Q,h1,he,hm]
 ·by_cases h2:x.kind=2
  ·by_cases hm:x.many=0
   ·repeat' first|refine Y2v ?_|refine Y2x ?_|refine Y2s ?_|refine Y2t ?_|refine Y2I hP rfl ?_|refine Y2J hP rfl ?_|(refine Y2A hP (by simp[h1,h2,hm]<;>rfl) ?_;dsimp only[goK])|(refine Y2L hP [] (fun e he=>by cases he) (by kernel_rfl) (by simp[h1,h2,hm]<;>rfl) ?_;dsimp only)|simp only[q0a,q0c,q0d,↓reduceIte,Nat.reduceEqDiff,reduceCtorEq]
    refine Y2u ⟨.inr rfl,_,_,rfl,rfl,?_⟩
    simp[q0q,q2Q,h1,h2,hm]
   ·repeat' first|refine Y2v ?_|refine Y2x ?_|refine Y2s ?_|refine Y2t ?_|refine Y2I hP rfl ?_|refine Y2J hP rfl ?_|(refine Y2A hP (by simp[h1,h2,hm]<;>rfl) ?_;dsimp only[goK])|(refine Y2L hP [] (fun e he=>by cases he) (by kernel_rfl) (by simp[h1,h2,hm]<;>rfl) ?_;dsimp only)|simp only[q0a,q0c,q0d,↓reduceIte,Nat.reduceEqDiff,reduceCtorEq]
    refine Y2u ⟨.inr rfl,_,_,rfl,rfl,?_⟩
    simp[q0q,q2Q,h1,h2,hm]
  ·by_cases h4:x.kind=4
   ·by_cases he:x.elem=0
    ·by_cases hm:x.many=0
     ·repeat' first|refine Y2v ?_|refine Y2x ?_|refine Y2s ?_|refine Y2t ?_|refine Y2I hP rfl ?_|refine Y2J hP rfl ?_|(refine Y2A hP (by simp[h1,h2,h4,he,hm]<;>rfl) ?_;dsimp only[goK])|simp only[q0a,q0c,q0d,↓reduceIte,Nat.reduceEqDiff,reduceCtorEq]
      refine Y2u ⟨.inr rfl,_,_,rfl,rfl,?_⟩
      simp[q0q,q2Q,h1,h2,h4,he,hm]
     ·repeat' first|refine Y2v ?_|refine Y2x ?_|refine Y2s ?_|refine Y2t ?_|refine Y2I hP rfl ?_|refine Y2J hP rfl ?_|(refine Y2A hP (by simp[h1,h2,h4,he,hm]<;>rfl) ?_;dsimp only[goK])|simp only[q0a,q0c,q0d,↓reduceIte,Nat.reduceEqDiff,reduceCtorEq]
      refine Y2u ⟨.inr rfl,_,_,rfl,rfl,?_⟩
      simp[q0q,q2Q,h1,h2,h4,he,hm]
    ·by_cases hm:x.many=0
     ·repeat' first|refine Y2v ?_|refine Y2x ?_|refine Y2s ?_|refine Y2t ?_|refine Y2I hP rfl ?_|refine Y2J hP rfl ?_|(refine Y2A hP (by simp[h1,h2,h4,he,hm]<;>rfl) ?_;dsimp only[goK])|simp only[q0a,q0c,q0d,↓reduceIte,Nat.reduceEqDiff,reduceCtorEq]
      refine Y2u ⟨.inr rfl,_,_,rfl,rfl,?_⟩
      simp[q0q,q2Q,h1,h2,h4,he,hm]
     ·repeat' first|refine Y2v ?_|refine Y2x ?_|refine Y2s ?_|refine Y2t ?_|refine Y2I hP rfl ?_|refine Y2J hP rfl ?_|(refine Y2A hP (by simp[h1,h2,h4,he,hm]<;>rfl) ?_;dsimp only[goK])|simp only[q0a,q0c,q0d,↓reduceIte,Nat.reduceEqDiff,reduceCtorEq]
      refine Y2u ⟨.inr rfl,_,_,rfl,rfl,?_⟩
      simp[q0q,q2Q,h1,h2,h4,he,hm]
   ·by_cases h3:x.kind=3
    ·by_cases hm:x.many=0
     ·repeat' first|refine Y2v ?_|refine Y2x ?_|refine Y2s ?_|refine Y2t ?_|refine Y2I hP rfl ?_|refine Y2J hP rfl ?_|(refine Y2A hP (by simp[h1,h2,h4,h3,hm]<;>rfl) ?_;dsimp only[goK])|simp only[q0a,q0c,q0d,↓reduceIte,Nat.reduceEqDiff,reduceCtorEq]
      refine Y2u ⟨.inr rfl,_,_,rfl,rfl,?_⟩
      simp[q0q,q2Q,h1,h2,h4,h3,hm]
     ·repeat' first|refine Y2v ?_|refine Y2x ?_|refine Y2s ?_|refine Y2t ?_|refine Y2I hP rfl ?_|refine Y2J hP rfl ?_|(refine Y2A hP (by simp[h1,h2,h4,h3,hm]<;>rfl) ?_;dsimp only[goK])|simp only[q0a,q0c,q0d,↓reduceIte,Nat.reduceEqDiff,reduceCtorEq]
      refine Y2u ⟨.inr rfl,_,_,rfl,rfl,?_⟩
      simp[q0q,q2Q,h1,h2,h4,h3,hm]
    ·by_cases h5:x.kind=5
     ·repeat' first|refine Y2v ?_|refine Y2x ?_|refine Y2s ?_|refine Y2t ?_|refine Y2I hP rfl ?_|refine Y2J hP rfl ?_|(refine Y2A hP (by simp[h1,h2,h4,h3,h5]<;>rfl) ?_;dsimp only[goK])|simp only[q0a,q0c,q0d,↓reduceIte,Nat.reduceEqDiff,reduceCtorEq]
      refine Y2u ⟨.inr rfl,_,_,rfl,rfl,?_⟩
      simp[q0q,q2Q,h1,h2,h4,h3,h5]
     ·repeat' first|refine Y2v ?_|refine Y2x ?_|refine Y2s ?_|refine Y2t ?_|refine Y2J hP rfl ?_|(refine Y2A hP (by simp[h1,h2,h4,h3,h5]<;>rfl) ?_;dsimp only[goK])|simp only[q0a,q0c,q0d,↓reduceIte,Nat.reduceEqDiff,reduceCtorEq]
      refine Y2u ⟨.inr rfl,_,_,rfl,rfl,?_⟩
      simp[q0q,q2Q,h1,h2,h4,h3,h5]
theorem x2q(hP:POk Tryz.prog F gl K)(v:AV)(xs:List Int)(g:FuncId)(cap:List AV)(p:Int→Bool)(hg:IsFn Tryz.prog g)(h:Hp)(hr:RdI h v xs)(hlen:xs.length<1000000)
  (hc:∀x∈xs,∀h',Wid h h'→Qt Tryz.prog F h' (.bool (p x)) g ([.int .i64 x]++cap)):
  Qt Tryz.prog F h (.int .i64 (idxP p xs)) q1P [v,.fn (.func g) [] cap]:=by
 have hl:=fun g=>hr.lenOf (q1a (gl:=gl) (K:=K)) g
 dsimp only[q0m,q0x]at hl
 refine Y2y hP q0f q4E rfl rfl ?_
 refine Y2v (Y2A hP (by simp<;>rfl) ?_)
 dsimp only[goK,q0a,q0c,q0d]
 refine Y2v (Y2v (Y2A hP (by simp[hl]<;>rfl) ?_))
 dsimp only[goK,q0a,q0c,q0d]
 refine Y2x (Y2H (fun i:Nat=>[(0,v),(1,.fn (.func g) [] cap),(7,.int .i64 xs.length),(8,.int .i64 (i:Nat))]) (fun i k=>i≤xs.length∧(∀j (hj:j<i) (hl:j<xs.length),p (xs[j])=false)∧Wid h k) (fun i=>xs.length-i) 0 (by repeat' first|exact q0h|refine q0e (by simp) ?_) ⟨Y0E _,fun j hj=>absurd hj (Y2K _),.refl _⟩ ?_)
 rintro i k ⟨hi,hno,hw⟩
 refine Y2v (Y2A hP (by simp<;>rfl) ?_)
 dsimp only[goK,q0a,q0c,q0d]
 refine Y2v (Y2w hP rfl (fun hc'=>Y2s ?_) (fun hc'=>Y2t ?_))
 ·have hi':i<xs.length:=by simpa using hc'
  obtain⟨q,hp1,hp2⟩:=(hr.wid hw).at' (q1a (gl:=gl) (K:=K)) (by simp) (q:=.i64) hi'
  have hp2:=hp2 k (.refl _)
  dsimp only[q0m,q0x]at hp1 hp2
  dsimp only[q0a]
  refine Y2v (Y2x (Y2v (Y2A hP (by simp<;>rfl) ?_)))
  dsimp only[goK,q0a]
  refine Y2v (Y2A hP (by simp[hp1,hp2]<;>rfl) ?_)
  dsimp only[goK,q0a,q0c,q0d]
  refine Y2N hP hg (hc xs[i] (Y0H hi') k hw) (by simp) rfl rfl rfl rfl fun k' hk'=> ?_
  refine Y2B hP (by simp<;>rfl) ?_
  dsimp only[goK,q0a,q0c,q0d]
  refine Y2w hP rfl (fun hp=> ?_) (fun hp=>Y2s ?_)
  ·refine Y2v (Y2A hP (by simp<;>rfl) ?_)
   dsimp only[goK,q0a,q0c,q0d]
   refine Y2u ⟨.inr rfl,k',_,rfl,rfl,?_,hw.trans hk'⟩
   simp only[q0q,idxP]
   rw[Y3h.2 ⟨hi',hp,fun j hj=>by simp[hno j hj (by omega)]⟩]
  ·dsimp only[q0c,q0a]
   refine Y2A hP (by simp;simp (disch:=omega)only[bAdd,bSub];simp<;>rfl) ?_
   dsimp only[goK,q0a,q0c,q0d]
   refine⟨i+1,by omega,rfl,?_,by omega,fun j hj hl=> ?_,hw.trans hk'⟩
   ·exact zL
   ·by_cases he:j=i
    ·subst he;exact hp
    ·exact hno j (by omega) hl
 ·have hi':¬i<xs.length:=by simpa using hc'
  dsimp only[q0a,q0d,q0c]
  refine Y2v (Y2A hP (by simp<;>rfl) ?_)
  dsimp only[goK,q0a,q0c,q0d]
  refine Y2u ⟨.inr rfl,k,_,rfl,rfl,?_,hw⟩
  simp only[q0q,idxP]
  rw[Y3g.2 fun x hx=>by
   obtain⟨j,hj,rfl⟩:=Y0F hx
   exact hno j (by omega) hj]
theorem z1i(hP:POk Tryz.prog F gl K)(v:AV)(xs:List Int)(g:FuncId)(cap:List AV)(p:Int→Bool)(hg:IsFn Tryz.prog g)(h:Hp)(hr:RdI h v xs)(hlen:xs.length<1000000)
  (hc:∀x∈xs,∀h',Wid h h'→Qt Tryz.prog F h' (.bool (p x)) g ([.int .i64 x]++cap)):
  Qt Tryz.prog F h (.bool (xs.any p)) q1E [v,.fn (.func g) [] cap]:=by
 refine Y2y hP q0f q3E rfl rfl ?_
 refine Y2v (Y2A hP (by simp<;>rfl) ?_)
 dsimp only[goK,q0a,q0c,q0d]
 refine Y2v (Y2A hP (by simp<;>rfl) ?_)
 dsimp only[goK,q0a,q0c,q0d]
 refine Y2N hP q4D (x2q hP v xs g cap p hg h hr hlen hc) (by simp) rfl rfl rfl rfl fun k hk=> ?_
 refine Y2B hP (by simp<;>rfl) ?_
 dsimp only[goK,q0a,q0c,q0d]
 refine Y2u ⟨.inr rfl,k,_,rfl,rfl,?_,hk⟩
 rw[←z1x];rfl
theorem z6h(hP:POk Tryz.prog F gl K)(h:Hp)(most:Int)(v:AV)(xs:List Int)(hr:RdI h v xs)(hlen:xs.length<1000000):Qt Tryz.prog F h (.bool (q2f most xs)) q9M [.int .i64 most,v]:=by
 refine Y2y hP q0f x0h rfl rfl ?_
 refine Y2v (Y2A hP (by simp<;>rfl) ?_)
 dsimp only[goK,q0a,q0c,q0d]
 refine Y2v (Y2A hP (by simp<;>rfl) ?_)
 dsimp only[goK,q0a,q0c,q0d]
 have hw:Wid h (h.new (.cells q0x [.int .i64 most])):=(Y2M h).new _
 refine Y2N hP q0W (z1i hP v xs q5T [.ptr h.nx 0] (fun n=>decide (n<0)||decide (most≤n)) z7J _ (hr.wid hw) hlen fun x _ h' hw=>there1 hP most x h.nx q0x h' ((hw.at (o:=.cells q0x [.int .i64 most]) (by simp) (by simp)))) (by simp) rfl rfl rfl rfl fun k hk=> ?_
 refine Y2B hP (by simp<;>rfl) ?_
 dsimp only[goK,q0a,q0c,q0d]
 refine Y2u ⟨.inr rfl,k,_,rfl,rfl,?_,hw.trans hk⟩
 simp only[q0q,q2f]
 congr 1
 rw[Y3i]
 congr 1
 funext n
 by_cases h1:n<0<;>by_cases h2:most≤n<;>simp[h1,h2]<;>omega
def scAt(t:List LType)(n:Int):Bool:=match t[n.toNat]? with|some y=>z4C y|none=>false
def mayS(t:List LType)(k:Nat)(sz:List Int):Int×Bool:=
  match t[k]? with
  |none=>(0,false)
  | some x=>
    if x.kind=1 then(1,q2Q x)
    else if x.kind=2 then(1,q2Q x&&q2f t.length [x.elem])
    else if x.kind=3 then(1,q2Q x&&(decide (x.parts.list.length≤4)&&(q2f t.length (x.elem::x.parts.list)&&(x.elem::x.parts.list).all (scAt t))))
    else if x.kind=4 then(if q2Q x&&q2f k x.parts.list=true then
      let s:=sumN (x.parts.list.map fun n=>sz.getD n.toNat 0)
      (s,decide (0<x.parts.list.length)&&(decide (x.parts.list.length≤8)&&decide (s≤32)))else(0,false))
    else if x.kind=5 then(if q2Q x&&(q2f k [x.elem]&&(decide (1≤x.many)&&decide (x.many≤16)))=true then
      let s:=x.many*sz.getD x.elem.toNat 0
      (s,decide (s≤32))else(0,false))
    else(1,false)
theorem may1(hP:POk Tryz.prog F gl K)(t:Sl LType)(n:Int)(r:Nat)(e:TypeId)(h:Hp)(hr:h.get r=some (.cells e [t.av LType.cells]))(hn:0≤n)(hn2:n<t.list.length):
  Qt Tryz.prog F h (.bool (!scAt t.list n)) q7K [.int .i64 n,.ptr r 0]:=by
 obtain⟨i,rfl⟩:=Y3j hn
 have hi:i<t.list.length:=by omega
 have hx:t.list[i]? =some t.list[i]:=Y0n hi
 have hav:=q0j (e:=LType.cells) (show 0<t.list.length by omega)
 refine Y2y hP q0f x0j rfl rfl ?_
 refine Y2v (Y2A hP (by simp<;>rfl) ?_)
 dsimp only[goK,q0a,q0c,q0d]
 refine Y2v (Y2A hP (by simp[hr,hav,hx]<;>rfl) ?_)
 dsimp only[goK,q0a,q0c,q0d]
 refine Y2O hP z8h (x3p hP t.list[i]) (by simp) rfl rfl rfl rfl ?_
 refine Y2B hP (by simp<;>rfl) ?_
 dsimp only[goK,q0a,q0c,q0d]
 refine Y2u ⟨.inr rfl,h,_,rfl,rfl,?_,.refl _⟩
 simp[q0q,scAt,hx]
end Go.Ax
