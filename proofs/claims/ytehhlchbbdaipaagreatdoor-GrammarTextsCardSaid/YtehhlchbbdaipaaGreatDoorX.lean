/- A part of the proof of grammarTexts (merged by a program). -/
import Derived.Test.YtehhlchbbdaipaaGreatDoorC
import Derived.Test.YtehhlchbbdaipaaGreatDoorE
import Derived.Laws.Externs
import Derived.Test.YtehhlchbbdaipaaGreatDoorProg
section
namespace Go.Am
open Go Go.Proofs
def X (n:Nat):Option Ext:=bif Nat.beq n 213 then some .same else bif Nat.beq n 223 then some .indexByte else bif Nat.beq n 308 then some .compare else none
theorem kT:VT Tryz.prog X:=by
 intro f e h args w
 unfold X at h
 simp only[beq_eq,cond_eq_ite,decide_eq_true_eq] at h
 split at h
 ·rename_i q; subst q; cases h
  exact run_callFunc_extern Tryz.func213 rfl rfl rfl rfl args w
 split at h
 ·rename_i q; subst q; cases h
  exact run_callFunc_extern Tryz.func223 rfl rfl rfl rfl args w
 split at h
 ·rename_i q; subst q; cases h
  exact run_callFunc_extern Tryz.func308 rfl rfl rfl rfl args w
 ·cases h
end Go.Am
end
section
namespace Go.Am
open Go Go.Proofs
def XZ:AV:=.BA [.int .u8 0,.int .u8 0,.int .u8 0,.int .u8 0,.int .u8 0,.int .u8 0,.int .u8 0,.int .u8 0,.int .u8 0,.int .u8 1,.int .u8 1,.int .u8 1,.int .u8 1,.int .u8 1,.int .u8 0,.int .u8 0,.int .u8 0,.int .u8 0,.int .u8 0,.int .u8 0,.int .u8 0,.int .u8 0,.int .u8 0,.int .u8 0,.int .u8 0,.int .u8 0,.int .u8 0,.int .u8 0,.int .u8 0,.int .u8 0,.int .u8 0,.int .u8 0,.int .u8 1,.int .u8 0,.int .u8 0,.int .u8 0,.int .u8 0,.int .u8 0,.int .u8 0,.int .u8 0,.int .u8 0,.int .u8 0,.int .u8 0,.int .u8 0,.int .u8 0,.int .u8 0,.int .u8 0,.int .u8 0,.int .u8 0,.int .u8 0,.int .u8 0,.int .u8 0,.int .u8 0,.int .u8 0,.int .u8 0,.int .u8 0,.int .u8 0,.int .u8 0,.int .u8 0,.int .u8 0,.int .u8 0,.int .u8 0,.int .u8 0,.int .u8 0,.int .u8 0,.int .u8 0,.int .u8 0,.int .u8 0,.int .u8 0,.int .u8 0,.int .u8 0,.int .u8 0,.int .u8 0,.int .u8 0,.int .u8 0,.int .u8 0,.int .u8 0,.int .u8 0,.int .u8 0,.int .u8 0,.int .u8 0,.int .u8 0,.int .u8 0,.int .u8 0,.int .u8 0,.int .u8 0,.int .u8 0,.int .u8 0,.int .u8 0,.int .u8 0,.int .u8 0,.int .u8 0,.int .u8 0,.int .u8 0,.int .u8 0,.int .u8 0,.int .u8 0,.int .u8 0,.int .u8 0,.int .u8 0,.int .u8 0,.int .u8 0,.int .u8 0,.int .u8 0,.int .u8 0,.int .u8 0,.int .u8 0,.int .u8 0,.int .u8 0,.int .u8 0,.int .u8 0,.int .u8 0,.int .u8 0,.int .u8 0,.int .u8 0,.int .u8 0,.int .u8 0,.int .u8 0,.int .u8 0,.int .u8 0,.int .u8 0,.int .u8 0,.int .u8 0,.int .u8 0,.int .u8 0,.int .u8 0,.int .u8 0,.int .u8 0,.int .u8 0,.int .u8 0,.int .u8 0,.int .u8 0,.int .u8 0,.int .u8 0,.int .u8 0,.int .u8 0,.int .u8 0,.int .u8 0,.int .u8 0,.int .u8 0,.int .u8 0,.int .u8 0,.int .u8 0,.int .u8 0,.int .u8 0,.int .u8 0,.int .u8 0,.int .u8 0,.int .u8 0,.int .u8 0,.int .u8 0,.int .u8 0,.int .u8 0,.int .u8 0,.int .u8 0,.int .u8 0,.int .u8 0,.int .u8 0,.int .u8 0,.int .u8 0,.int .u8 0,.int .u8 0,.int .u8 0,.int .u8 0,.int .u8 0,.int .u8 0,.int .u8 0,.int .u8 0,.int .u8 0,.int .u8 0,.int .u8 0,.int .u8 0,.int .u8 0,.int .u8 0,.int .u8 0,.int .u8 0,.int .u8 0,.int .u8 0,.int .u8 0,.int .u8 0,.int .u8 0,.int .u8 0,.int .u8 0,.int .u8 0,.int .u8 0,.int .u8 0,.int .u8 0,.int .u8 0,.int .u8 0,.int .u8 0,.int .u8 0,.int .u8 0,.int .u8 0,.int .u8 0,.int .u8 0,.int .u8 0,.int .u8 0,.int .u8 0,.int .u8 0,.int .u8 0,.int .u8 0,.int .u8 0,.int .u8 0,.int .u8 0,.int .u8 0,.int .u8 0,.int .u8 0,.int .u8 0,.int .u8 0,.int .u8 0,.int .u8 0,.int .u8 0,.int .u8 0,.int .u8 0,.int .u8 0,.int .u8 0,.int .u8 0,.int .u8 0,.int .u8 0,.int .u8 0,.int .u8 0,.int .u8 0,.int .u8 0,.int .u8 0,.int .u8 0,.int .u8 0,.int .u8 0,.int .u8 0,.int .u8 0,.int .u8 0,.int .u8 0,.int .u8 0,.int .u8 0,.int .u8 0,.int .u8 0,.int .u8 0,.int .u8 0,.int .u8 0,.int .u8 0,.int .u8 0,.int .u8 0,.int .u8 0,.int .u8 0,.int .u8 0,.int .u8 0,.int .u8 0,.int .u8 0,.int .u8 0,.int .u8 0,.int .u8 0,.int .u8 0,.int .u8 0,.int .u8 0,.int .u8 0,.int .u8 0,.int .u8 0]
theorem iT:Tryz.prog.globalNamed "internal/strconv.uint64pow10" =some 3:=by kernel_rfl
def PO:List AV:=Lib.pow10Tab.map (AV.int .u64)
def GT (n:Nat):Option AV:=bif Nat.beq n 1 then some (.tuple []) else bif Nat.beq n 3 then some (.tuple PO) else bif Nat.beq n 0 then some XZ else bif Nat.beq n 2 then some (.BA [.int .i64 1152921504606846976,.int .i64 0]) else bif Nat.beq n 5 then some (.BA [.iface 384 (.BA [.str [105,110,118,97,108,105,100,32,115,121,110,116,97,120]])]) else bif Nat.beq n 6 then some (.BA [.iface 384 (.BA [.str [118,97,108,117,101,32,111,117,116,32,111,102,32,114,97,110,103,101]])]) else none
 noncomputable def Wn (n:Nat):Bool:=match Tryz.prog.funcs[n]?,codeOf n with
 |some rf,some fn=>(match rf.body with|some c=>DR Tryz.prog X rf.ntmps GT fn.body c&&Hw Tryz.prog rf.ntmps rf.results.toList fn.results&&Nat.blt rf.ntmps 16384&&!(rf.name == "runtime.NumGoroutine")|none=>false)
 |_,_=>false
end Go.Am
end
section
namespace Go.Am
open Go Go.Proofs
theorem Yo {f:Nat}{fn:BO}(hf:codeOf f=some fn)(h:Wn f=true):ax Tryz.prog X GT f fn:=by
 unfold Wn at h
 rw[hf] at h
 split at h
 ·rename_i rf fn' h1 h2
  cases h2
  split at h
  ·rename_i c hc
   simp only[Bool.and_eq_true,Bool.not_eq_true',blt_eq,decide_eq_true_eq] at h
   exact⟨rf,c,h1,hc,h.2,h.1.1.1,h.1.1.2,h.1.2⟩
  ·cases h
 ·cases h
 noncomputable def Gu (lo n:Nat):Bool:=(List.range' lo n).all fun f=>(codeOf f).isNone||Wn f
theorem FY {lo n f:Nat}{fn:BO}(h:Gu lo n=true)(h1:lo<=f)(h2:f<lo+n)(hf:codeOf f=some fn):ax Tryz.prog X GT f fn:=by
 unfold Gu at h
 rw[List.all_eq_true] at h
 have:=h f (List.mem_range'_1.2 ⟨h1,h2⟩)
 rw[hf] at this
 simp only[Option.isNone_some,Bool.false_or] at this
 exact Yo hf this
end Go.Am
end
section
namespace Go.Am
open Go Go.Proofs
theorem mi:Tryz.prog.follows .mixedOrders=true:=by decide +kernel
theorem gP:WE Tryz.prog E:=by
 intro t name f h0 v w
 show _=_
 have h:methOf t name=some f:=h0
 clear h0
 unfold methOf at h
 simp only[beq_eq,cond_eq_ite,Bool.and_eq_true,decide_eq_true_eq,beq_iff_eq] at h
 have key:∀m fn pr,t=188->(Tryz.t188.methods.find? (·.name==name))=some m->m.path=#[]->m.func=some (fn,pr)->pr=false->(method (Tryz.prog.types.size+Made.depth) t v name).run Tryz.prog w=.ok (fn,v) w:=by
  intro m fn pr ht hm hp hf hpr
  subst ht hpr
  have hd:Tryz.prog.types.size+Made.depth=(Tryz.prog.types.size+(Made.depth-1))+1:=by have:Made.depth=(Made.depth-1)+1:=rfl; omega
  rw[hd]
  have hti:(typeInfo 188).run Tryz.prog w=.ok Tryz.t188 w:=Tryz.typeInfo188 w
  simp only[method,Sem.run_bind,hti,Result.andThen_ok,hm,hp,follow,hf,Sem.run_pure,receiverAt,run_underlying Tryz.underlying188,Place.get]
 split at h
 ·rename_i q; obtain⟨q1,q2⟩:=q; subst q2; cases h; exact key _ _ _ q1 rfl rfl rfl rfl
 split at h
 ·rename_i q; obtain⟨q1,q2⟩:=q; subst q2; cases h; exact key _ _ _ q1 rfl rfl rfl rfl
 split at h
 ·rename_i q; obtain⟨q1,q2⟩:=q; subst q2; cases h; exact key _ _ _ q1 rfl rfl rfl rfl
 split at h
 ·rename_i q; obtain⟨q1,q2⟩:=q; subst q2; cases h; exact key _ _ _ q1 rfl rfl rfl rfl
 ·cases h
end Go.Am
end
