/- A part of the proof of grammarsComeBack (merged by a program). -/
import Derived.Test.YtmnlpahaihiegaaGreatDoorC
import Derived.Test.YtmnlpahaihiegaaGreatDoorE
import Derived.Laws.Externs
import Derived.Test.YtmnlpahaihiegaaGreatDoorProg
section
namespace Go.Am
open Go Go.Proofs
def X (n:Nat):Option Ext:=bif Nat.beq n 102 then some .same else bif Nat.beq n 156 then some .indexByte else bif Nat.beq n 272 then some .compare else none
theorem mq:Vx Tryz.prog X:=by
 intro f e h args w
 unfold X at h
 simp only[beq_eq,cond_eq_ite,decide_eq_true_eq] at h
 split at h
 ·rename_i q; subst q; cases h
  exact run_callFunc_extern Tryz.func102 rfl rfl rfl rfl args w
 split at h
 ·rename_i q; subst q; cases h
  exact run_callFunc_extern Tryz.func156 rfl rfl rfl rfl args w
 split at h
 ·rename_i q; subst q; cases h
  exact run_callFunc_extern Tryz.func272 rfl rfl rfl rfl args w
 ·cases h
end Go.Am
end
section
namespace Go.Am
open Go Go.Proofs
def YM:AV:=.BN [.int .u8 0,.int .u8 0,.int .u8 0,.int .u8 0,.int .u8 0,.int .u8 0,.int .u8 0,.int .u8 0,.int .u8 0,.int .u8 1,.int .u8 1,.int .u8 1,.int .u8 1,.int .u8 1,.int .u8 0,.int .u8 0,.int .u8 0,.int .u8 0,.int .u8 0,.int .u8 0,.int .u8 0,.int .u8 0,.int .u8 0,.int .u8 0,.int .u8 0,.int .u8 0,.int .u8 0,.int .u8 0,.int .u8 0,.int .u8 0,.int .u8 0,.int .u8 0,.int .u8 1,.int .u8 0,.int .u8 0,.int .u8 0,.int .u8 0,.int .u8 0,.int .u8 0,.int .u8 0,.int .u8 0,.int .u8 0,.int .u8 0,.int .u8 0,.int .u8 0,.int .u8 0,.int .u8 0,.int .u8 0,.int .u8 0,.int .u8 0,.int .u8 0,.int .u8 0,.int .u8 0,.int .u8 0,.int .u8 0,.int .u8 0,.int .u8 0,.int .u8 0,.int .u8 0,.int .u8 0,.int .u8 0,.int .u8 0,.int .u8 0,.int .u8 0,.int .u8 0,.int .u8 0,.int .u8 0,.int .u8 0,.int .u8 0,.int .u8 0,.int .u8 0,.int .u8 0,.int .u8 0,.int .u8 0,.int .u8 0,.int .u8 0,.int .u8 0,.int .u8 0,.int .u8 0,.int .u8 0,.int .u8 0,.int .u8 0,.int .u8 0,.int .u8 0,.int .u8 0,.int .u8 0,.int .u8 0,.int .u8 0,.int .u8 0,.int .u8 0,.int .u8 0,.int .u8 0,.int .u8 0,.int .u8 0,.int .u8 0,.int .u8 0,.int .u8 0,.int .u8 0,.int .u8 0,.int .u8 0,.int .u8 0,.int .u8 0,.int .u8 0,.int .u8 0,.int .u8 0,.int .u8 0,.int .u8 0,.int .u8 0,.int .u8 0,.int .u8 0,.int .u8 0,.int .u8 0,.int .u8 0,.int .u8 0,.int .u8 0,.int .u8 0,.int .u8 0,.int .u8 0,.int .u8 0,.int .u8 0,.int .u8 0,.int .u8 0,.int .u8 0,.int .u8 0,.int .u8 0,.int .u8 0,.int .u8 0,.int .u8 0,.int .u8 0,.int .u8 0,.int .u8 0,.int .u8 0,.int .u8 0,.int .u8 0,.int .u8 0,.int .u8 0,.int .u8 0,.int .u8 0,.int .u8 0,.int .u8 0,.int .u8 0,.int .u8 0,.int .u8 0,.int .u8 0,.int .u8 0,.int .u8 0,.int .u8 0,.int .u8 0,.int .u8 0,.int .u8 0,.int .u8 0,.int .u8 0,.int .u8 0,.int .u8 0,.int .u8 0,.int .u8 0,.int .u8 0,.int .u8 0,.int .u8 0,.int .u8 0,.int .u8 0,.int .u8 0,.int .u8 0,.int .u8 0,.int .u8 0,.int .u8 0,.int .u8 0,.int .u8 0,.int .u8 0,.int .u8 0,.int .u8 0,.int .u8 0,.int .u8 0,.int .u8 0,.int .u8 0,.int .u8 0,.int .u8 0,.int .u8 0,.int .u8 0,.int .u8 0,.int .u8 0,.int .u8 0,.int .u8 0,.int .u8 0,.int .u8 0,.int .u8 0,.int .u8 0,.int .u8 0,.int .u8 0,.int .u8 0,.int .u8 0,.int .u8 0,.int .u8 0,.int .u8 0,.int .u8 0,.int .u8 0,.int .u8 0,.int .u8 0,.int .u8 0,.int .u8 0,.int .u8 0,.int .u8 0,.int .u8 0,.int .u8 0,.int .u8 0,.int .u8 0,.int .u8 0,.int .u8 0,.int .u8 0,.int .u8 0,.int .u8 0,.int .u8 0,.int .u8 0,.int .u8 0,.int .u8 0,.int .u8 0,.int .u8 0,.int .u8 0,.int .u8 0,.int .u8 0,.int .u8 0,.int .u8 0,.int .u8 0,.int .u8 0,.int .u8 0,.int .u8 0,.int .u8 0,.int .u8 0,.int .u8 0,.int .u8 0,.int .u8 0,.int .u8 0,.int .u8 0,.int .u8 0,.int .u8 0,.int .u8 0,.int .u8 0,.int .u8 0,.int .u8 0,.int .u8 0,.int .u8 0,.int .u8 0,.int .u8 0,.int .u8 0,.int .u8 0,.int .u8 0,.int .u8 0,.int .u8 0,.int .u8 0,.int .u8 0,.int .u8 0,.int .u8 0,.int .u8 0,.int .u8 0,.int .u8 0,.int .u8 0]
theorem jE:Tryz.prog.globalNamed "internal/strconv.uint64pow10" =some 6:=by kernel_rfl
def Pg:List AV:=Lib.pow10Tab.map (AV.int .u64)
def GT (n:Nat):Option AV:=bif Nat.beq n 2 then some (.tuple []) else bif Nat.beq n 6 then some (.tuple Pg) else bif Nat.beq n 0 then some YM else bif Nat.beq n 3 then some (.BN [.int .i64 1152921504606846976,.int .i64 0]) else bif Nat.beq n 4 then some (.BN [.iface 392 (.BN [.str [105,110,118,97,108,105,100,32,115,121,110,116,97,120]])]) else bif Nat.beq n 5 then some (.BN [.iface 392 (.BN [.str [118,97,108,117,101,32,111,117,116,32,111,102,32,114,97,110,103,101]])]) else none
 noncomputable def Xd (n:Nat):Bool:=match Tryz.prog.funcs[n]?,codeOf n with
 |some rf,some fn=>(match rf.body with|some c=>DF Tryz.prog X rf.ntmps GT fn.body c&&IA Tryz.prog rf.ntmps rf.results.toList fn.results&&Nat.blt rf.ntmps 16384&&!(rf.name == "runtime.NumGoroutine")|none=>false)
 |_,_=>false
end Go.Am
end
section
namespace Go.Am
open Go Go.Proofs
theorem Zg {f:Nat}{fn:Aq}(hf:codeOf f=some fn)(h:Xd f=true):dM Tryz.prog X GT f fn:=by
 unfold Xd at h
 rw[hf] at h
 split at h
 ·rename_i rf fn' h1 h2
  cases h2
  split at h
  ·rename_i c hc
   simp only[Bool.and_eq_true,Bool.not_eq_true',blt_eq,decide_eq_true_eq] at h
   exact⟨rf,c,h1,hc,h.2,h.1.1.1,h.1.1.2,h.1.2⟩
  ·cases h
 ·cases h
 noncomputable def IX (lo n:Nat):Bool:=(List.range' lo n).all fun f=>(codeOf f).isNone||Xd f
theorem Gj {lo n f:Nat}{fn:Aq}(h:IX lo n=true)(h1:lo<=f)(h2:f<lo+n)(hf:codeOf f=some fn):dM Tryz.prog X GT f fn:=by
 unfold IX at h
 rw[List.all_eq_true] at h
 have:=h f (List.mem_range'_1.2 ⟨h1,h2⟩)
 rw[hf] at this
 simp only[Option.isNone_some,Bool.false_or] at this
 exact Zg hf this
end Go.Am
end
section
namespace Go.Am
open Go Go.Proofs
theorem pK:Tryz.prog.follows .mixedOrders=true:=by decide +kernel
theorem jM:Xn Tryz.prog E:=by
 intro t name f h0 v w
 show _=_
 have h:methOf t name=some f:=h0
 clear h0
 unfold methOf at h
 simp only[beq_eq,cond_eq_ite,Bool.and_eq_true,decide_eq_true_eq,beq_iff_eq] at h
 have key:∀m fn pr,t=148->(Tryz.t148.methods.find? (·.name==name))=some m->m.path=#[]->m.func=some (fn,pr)->pr=false->(method (Tryz.prog.types.size+Made.depth) t v name).run Tryz.prog w=.ok (fn,v) w:=by
  intro m fn pr ht hm hp hf hpr
  subst ht hpr
  have hd:Tryz.prog.types.size+Made.depth=(Tryz.prog.types.size+(Made.depth-1))+1:=by have:Made.depth=(Made.depth-1)+1:=rfl; omega
  rw[hd]
  have hti:(typeInfo 148).run Tryz.prog w=.ok Tryz.t148 w:=Tryz.typeInfo148 w
  simp only[method,Sem.run_bind,hti,Result.andThen_ok,hm,hp,follow,hf,Sem.run_pure,receiverAt,run_underlying Tryz.underlying148,Place.get]
 split at h
 ·rename_i q; obtain⟨q1,q2⟩:=q; subst q2; cases h; exact key _ _ _ q1 rfl rfl rfl rfl
 split at h
 ·rename_i q; obtain⟨q1,q2⟩:=q; subst q2; cases h; exact key _ _ _ q1 rfl rfl rfl rfl
 split at h
 ·rename_i q; obtain⟨q1,q2⟩:=q; subst q2; cases h; exact key _ _ _ q1 rfl rfl rfl rfl
 split at h
 ·rename_i q; obtain⟨q1,q2⟩:=q; subst q2; cases h; exact key _ _ _ q1 rfl rfl rfl rfl
 ·cases h
end Go.Am
end
