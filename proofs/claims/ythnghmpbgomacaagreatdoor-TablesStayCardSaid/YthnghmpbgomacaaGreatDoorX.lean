/- A part of tablesStay. -/
import Derived.Test.YthnghmpbgomacaaGreatDoorC
import Derived.Test.YthnghmpbgomacaaGreatDoorE
import Derived.Laws.Externs
import Derived.Test.YthnghmpbgomacaaGreatDoorProg
namespace Go.Am
open Go Go.Proofs
def X(n:Nat):Option Ext:=bif Nat.beq n 140 then some .same else bif Nat.beq n 276 then some .indexByte else bif Nat.beq n 202 then some .compare else none
theorem AFt:ko Tryz.prog X:=by
 intro f e h args w;unfold X at h;simp only[beq_eq,Ad,Aw]at h;split at h
 ·rename_i q;subst q;cases h;exact run_callFunc_extern Tryz.func140 rfl rfl rfl rfl args w
 split at h
 ·rename_i q;subst q;cases h;exact run_callFunc_extern Tryz.func276 rfl rfl rfl rfl args w
 split at h
 ·rename_i q;subst q;cases h;exact run_callFunc_extern Tryz.func202 rfl rfl rfl rfl args w
 ·cases h
end Go.Am
namespace Go.Am
open Go Go.Proofs
def qY:AV:=.CB ascT
theorem ADF:Tryz.prog.globalNamed "internal/strconv.uint64pow10" =some 6:=by kernel_rfl
def Xb:List AV:=Lib.pow10Tab.map (AV.int .u64)
def GT(n:Nat):Option AV:=bif Nat.beq n 1 then some (.tuple []) else bif Nat.beq n 6 then some (.tuple Xb) else bif Nat.beq n 0 then some qY else bif Nat.beq n 2 then some (.CB [.int .i64 1152921504606846976,.int .i64 0]) else bif Nat.beq n 4 then some (.CB [.iface 392 (.CB [.str [105,110,118,97,108,105,100,32,115,121,110,116,97,120]])]) else bif Nat.beq n 5 then some (.CB [.iface 392 (.CB [.str [118,97,108,117,101,32,111,117,116,32,111,102,32,114,97,110,103,101]])]) else none
 noncomputable def oQ(n:Nat):Bool:=match Tryz.prog.funcs[n]?,codeOf n with
 |some rf,some fn=>(match rf.body with|some c=>IB Tryz.prog X rf.ntmps GT fn.body c&&Mr Tryz.prog rf.ntmps rf.results.toList fn.results&&Nat.blt rf.ntmps 16384&&!(rf.name == "runtime.NumGoroutine")|none=>false)
 |_,_=>false
end Go.Am
namespace Go.Am
open Go Go.Proofs
theorem ui{f:Nat}{fn:DF}(a:codeOf f=some fn)(h:oQ f=true):zV Tryz.prog X GT f fn:=by
 unfold oQ at h;rw[a]at h;split at h
 ·rename_i g b e d;cases d;split at h
  ·rename_i c i;simp only[Aq,Fp,blt_eq,Aw]at h;exact⟨g,c,e,i,h.2,h.1.1.1,h.1.1.2,h.1.2⟩
  ·cases h
 ·cases h
 noncomputable def NR(lo n:Nat):Bool:=(List.range' lo n).all fun f=>(codeOf f).isNone||oQ f
theorem LZ{a n f:Nat}{fn:DF}(h:NR a n=true)(c:a<=f)(d:f<a+n)(b:codeOf f=some fn):zV Tryz.prog X GT f fn:=by unfold NR at h;rw[Fj]at h;have:=h f (List.mem_range'_1.2 ⟨c,d⟩);rw[b]at this;simp only[Option.isNone_some,Bool.false_or]at this;exact ui b this
end Go.Am
namespace Go.Am
open Go Go.Proofs
theorem fol:Tryz.prog.follows .mixedOrders=true:=by decide +kernel
theorem ACh:pM Tryz.prog E:=by
 intro t name f g v w;show _=_;have h:methOf t name=some f:=g;clear g;unfold methOf at h;simp only[beq_eq,Ad,Aq,Aw,IJ]at h;have key:∀m fn e,t=166->(Tryz.t166.methods.find? (·.name==name))=some m->m.path=#[]->m.func=some (fn,e)->e=false->(method (Tryz.prog.types.size+Made.depth) t v name).run Tryz.prog w=.ok (fn,v) w:=by
  intro m fn e l n i k c;subst l c;have j:Tryz.prog.types.size+Made.depth=(Tryz.prog.types.size+(Made.depth-1))+1:=by have:Made.depth=(Made.depth-1)+1:=rfl;omega
  rw[j];have d:(typeInfo 166).run Tryz.prog w=.ok Tryz.t166 w:=Tryz.typeInfo166 w;simp only[method,CJ,d,Dj,n,i,follow,k,Cs,receiverAt,BQ Tryz.underlying166,Place.get]
 split at h
 ·rename_i q;obtain⟨a,b⟩:=q;subst b;cases h;exact key _ _ _ a rfl rfl rfl rfl
 split at h
 ·rename_i q;obtain⟨a,b⟩:=q;subst b;cases h;exact key _ _ _ a rfl rfl rfl rfl
 split at h
 ·rename_i q;obtain⟨a,b⟩:=q;subst b;cases h;exact key _ _ _ a rfl rfl rfl rfl
 split at h
 ·rename_i q;obtain⟨a,b⟩:=q;subst b;cases h;exact key _ _ _ a rfl rfl rfl rfl
 ·cases h
end Go.Am
