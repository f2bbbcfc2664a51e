/- A part of the proof of grammarsComeBack (merged by a program). -/
import Derived.Test.YtmnlpahaihiegaaGreatDoorW2
namespace Go.Am
open Go
theorem Ap {E:Env}{call:Nat->List AV->St->M (AV × St)}{s d q:Nat}{b:Bool}{k:AK}{args:List Gl}{ops:List Bw}{ts:TS}{st:St}(h:ts.get q=.bool b):HY E call s (⟨some d,some (q,b),k,args⟩::ops) ts st=HY E call s (⟨some d,none,k,args⟩::ops) ts st:=by
 rw[JX,h]; cases b <;> rfl
theorem Aj {E:Env}{call:Nat->List AV->St->M (AV × St)}{s d q:Nat}{b:Bool}{k:AK}{args:List Gl}{ops:List Bw}{ts:TS}{st:St}(h:ts.get q=.bool (!b)):HY E call s (⟨some d,some (q,b),k,args⟩::ops) ts st=HY E call s ops (ts.set d .undef) st:=by
 rw[JX,h]; cases b <;> rfl
def Jf (b:UInt8):Bool:=decide (97<=b.toNat/\b.toNat<=122)
def KN (b:UInt8):Bool:=decide (48<=b.toNat/\b.toNat<=57)
theorem JR {k:Nat}{b:UInt8}{st:St}:AX E (k+1) 150 [.int .u8 b.toNat] st=.ret (.bool (Jf b),st):=by
 rw[Ai (fn:=C.f150) rfl rfl rfl,Af (by simp)]
 by_cases h:97<=b.toNat
 ·have h':(97:Int)<=(b.toNat:Int):=by omega
  by_cases h2:b.toNat<=122
  ·have h2':(b.toNat:Int)<=122:=by omega
   have:Jf b=true:=by simp[Jf,h,h2]
   simp[C.f150,Ap,Aj,h',h2',this,leave,results,AR]
  ·have h2':¬(b.toNat:Int)<=122:=by omega
   have:Jf b=false:=by simp[Jf,h]; omega
   simp[C.f150,Ap,Aj,h',h2',this,leave,results,AR]
 ·have h':¬(97:Int)<=(b.toNat:Int):=by omega
  have:Jf b=false:=by simp[Jf]; omega
  simp[C.f150,Ap,Aj,h',this,leave,results,AR]
theorem MF {k:Nat}{b:UInt8}{st:St}:AX E (k+1) 107 [.int .u8 b.toNat] st=.ret (.bool (KN b),st):=by
 rw[Ai (fn:=C.f107) rfl rfl rfl,Af (by simp)]
 by_cases h:48<=b.toNat
 ·have h':(48:Int)<=(b.toNat:Int):=by omega
  by_cases h2:b.toNat<=57
  ·have h2':(b.toNat:Int)<=57:=by omega
   have:KN b=true:=by simp[KN,h,h2]
   simp[C.f107,Ap,Aj,h',h2',this,leave,results,AR]
  ·have h2':¬(b.toNat:Int)<=57:=by omega
   have:KN b=false:=by simp[KN,h]; omega
   simp[C.f107,Ap,Aj,h',h2',this,leave,results,AR]
 ·have h':¬(48:Int)<=(b.toNat:Int):=by omega
  have:KN b=false:=by simp[KN]; omega
  simp[C.f107,Ap,Aj,h',this,leave,results,AR]
def LF (b:UInt8):Bool:=Jf b||KN b||b.toNat==95
theorem Qg {k:Nat}{b:UInt8}{st:St}:AX E (k+2) 151 [.int .u8 b.toNat] st=.ret (.bool (LF b),st):=by
 rw[Ai (fn:=C.f151) rfl rfl rfl,Af (by simp)]
 cases h:Jf b with
 |true=>simp[C.f151,JR,MF,Ap,Aj,h,LF,leave,results,AR]
 |false=>
  cases h2:KN b with
  |true=>simp[C.f151,JR,MF,Ap,Aj,h,h2,LF,leave,results,AR]
  |false=>
   have h3':((b.toNat:Int)==95)=(b.toNat==95):=by rw[Bool.eq_iff_iff]; simp; omega
   simp[C.f151,JR,MF,Ap,Aj,h,h2,LF,leave,results,AR]
   exact h3'
theorem jq {k:Nat}{x l u:Int}{st:St}:AX E (k+1) 34 [.int .i64 x,.int .i64 l,.int .i64 u] st=.ret (.bool (decide (l<=x/\x<=u)),st):=by
 rw[Ai (fn:=C.f34) rfl rfl rfl,Af (by simp)]
 by_cases h:l<=x
 ·by_cases h2:x<=u
  ·simp[C.f34,Ap,Aj,h,h2,leave,results,AR]
  ·simp[C.f34,Ap,Aj,h,h2,leave,results,AR]
 ·simp[C.f34,Ap,Aj,h,leave,results,AR]
def FP (s:BB):Bool:=match s with
 |[]=>false
 |b::l=>decide (l.length<40)&&Jf b&&(b::l).all LF
theorem Uw {k:Nat}{s:BB}{st:St}(hs:s.length<=100000)(ts0:TS)(h0:ts0.get 0=.str s)(h19:ts0.get 19=.int .i64 (s.length:Int))(h20:ts0.get 20=.int .i64 ((0:Nat):Int)) :
 (Dh (BF E (AX E (k+2)) C.f98L0) E.k ts0 st).to fun x=>x.2.2=st/\((x.1=.exit 0/\s.all LF=true)∨(x.1=.ret/\x.2.1.get 2=.bool false/\s.all LF=false)):=by
 refine DI (fun (i:Nat) ts st'=>st'=st/\i<=s.length/\ts.get 0=.str s/\ts.get 19=.int .i64 (s.length:Int)/\ts.get 20=.int .i64 (i:Int)/\∀j (hj:j<s.length),j<i->LF s[j]=true)
  (fun i=>s.length-i) ?_ _ 0 _ _ ?_ ?_
 ·rintro i ts st' ⟨rfl,hi,h0,h19,h20,hall⟩
  by_cases Bc:i<s.length
  ·have hix:CR (.str s) (.int .i64 (i:Int)) st'=some (.int .u8 s[i].toNat,st'):=by simp[CR,Bd,Bc]
   cases hin:LF s[i] with
   |true=>
    simp[C.f98L0,h0,h19,h20,Bc,hix,Qg,hin,wi i]
    refine⟨i+1,by omega,by omega,by simp,fun j hj h=>?_⟩
    rcases Nat.lt_or_ge j i with h'|h'
    ·exact hall j hj h'
    ·have:j=i:=by omega
     subst this; exact hin
   |false=>
    simp[C.f98L0,h0,h19,h20,Bc,hix,Qg,hin]
    exact⟨s[i],List.getElem_mem Bc,hin⟩
  ·have:i=s.length:=by omega
   subst this
   simp[C.f98L0,h19,h20]
   intro b hb
   obtain⟨j,hj,rfl⟩:=List.getElem_of_mem hb
   exact hall j hj hj
 ·show s.length-0<1000000; omega
 ·exact⟨rfl,by omega,h0,h19,h20,fun j hj h=>by omega⟩
theorem Qd {k:Nat}{s:BB}{st:St}(hs:s.length<=100000):AX E (k+3) 98 [.str s] st=.ret (.bool (FP s),st):=by
 rw[Ai (fn:=C.f98) rfl rfl rfl,Af (by simp)]
 have goal:((BF E (AX E (k+2)) C.f98.body (TS.Cm [.str s] 0 .nil) st).bind (leave C.f98.results)).to fun r=>r=(.bool (FP s),st):=by
  cases s with
  |nil=>simp[C.f98,Ap,Aj,Be,Jq,FP,leave,results,AR]
  |cons b l=>
   have h1:¬((b::l).length:Int)<1:=by simp; omega
   have hl:((b::l).length:Int)=(l.length:Int)+1:=by simp
   by_cases h40:l.length<40
   ·have h40':¬(40:Int)<(l.length:Int)+1:=by omega
    have h1':¬(l.length:Int)+1<1:=by omega
    have hix:CR (.str (b::l)) (.int .i64 0) st=some (.int .u8 b.toNat,st):=rfl
    cases hb:Jf b with
    |true=>
     have loop:=fun ts0 z0 z19 z20=>Uw (k:=k) (st:=st) hs ts0 z0 z19 z20
     simp[C.f98,Ap,Aj,Be,Jq,hl,h1',h40',hix,JR,hb]
     refine M.BX (loop _ (by simp) (by simp) (by simp)) fun x hx=>?_
     obtain⟨e,ts1,st1⟩:=x
     obtain⟨rfl,⟨rfl,ha⟩|⟨rfl,hf,ha⟩⟩:=hx
     ·simp[leave,results,AR,FP,h40,hb]
      simpa using ha
     ·simp only at hf ha
      simp[leave,results,AR,FP,h40,hb,hf]
      simpa using ha
    |false=>simp[C.f98,Ap,Aj,Be,Jq,hl,h1',h40',hix,JR,hb,FP,leave,results,AR]
   ·have h40':(40:Int)<(l.length:Int)+1:=by omega
    have h1':¬(l.length:Int)+1<1:=by omega
    simp[C.f98,Ap,Aj,Be,Jq,hl,h1',h40',FP,h40,leave,results,AR]
 obtain⟨r,h1,h2⟩:=goal
 rw[h1,h2]
theorem Su {n:Nat}{v:AV}{l:List (List UInt8)}{x:List UInt8}{st:St}(h:Ci v 1 (strs l))(hl:l.length<1000000) :
 AX E (n+1) 109 [v,.str x] st=.ret (.int .i64 (idxOf l x),st):=by
 rw[Ai (fn:=C.f109) rfl rfl rfl,Af (by simp)]
 apply M.to_eq
 simp[C.f109,h.len]
 refine M.BX (Kb (fun (i:Nat) ts st'=>st'=st/\i<=l.length/\ts.get 0=v/\ts.get 1=.str x/\ts.get 7=.int .i64 l.length/\ts.get 8=.int .i64 i/\∀j (h:j<l.length),j<i->¬l[j]=x)
  (fun i=>l.length-i) (fun e ts st'=>st'=st/\((e=.exit 0/\idxOf l x=-1)∨(e=.ret/\ts.get 4=.int .i64 (idxOf l x)))) ?step _ 0 _ _ ?_ ?_) ?_
 case step=>
  rintro i ts st' ⟨rfl,hi,h0,h1,h7,h8,hj⟩
  by_cases Bc:i<l.length
  ·by_cases he:x=l[i]
   ·have:idxOf l x=i:=by
     have:l.findIdx? (·==x)=some i:=by
      rw[List.findIdx?_eq_some_iff_getElem]
      exact⟨Bc,by simp[he],fun j hji=>by simpa using hj j (by omega) hji⟩
     simp[idxOf,this]
    simp[C.f109L0,h0,h1,h7,h8,Bc,h.Jr Bc,he]
    rw[← he,this]
   ·simp[C.f109L0,h0,h1,h7,h8,Bc,h.Jr Bc,beq_false_of_ne he,wi i]
    refine⟨i+1,by omega,by omega,by simp,fun j hjl hji=>?_⟩
    by_cases e:j=i
    ·subst e; exact fun h=>he h.symm
    ·exact hj j hjl (by omega)
  ·simp[C.f109L0,h0,h1,h7,h8,Bc]
   have:l.findIdx? (·==x)=none:=by
    rw[List.findIdx?_eq_none_iff]
    intro y hy
    obtain⟨j,hjl,rfl⟩:=List.getElem_of_mem hy
    simpa using hj j hjl (by omega)
   simp[idxOf,this]
 ·show _<1000000; omega
 ·simp
 ·rintro⟨e,ts,st'⟩ ⟨rfl,h⟩
  rcases h with⟨rfl,h⟩|⟨rfl,h⟩
  ·simp[leave,results,AR,h]
  ·simp[leave,results,AR,h]
theorem ZU {l:List BB}{x:BB}:decide (0<=idxOf l x)=decide (x∈l):=by
 rw[Bool.eq_iff_iff]
 simp only[decide_eq_true_eq]
 unfold idxOf
 split
 ·rename_i i h
  rw[List.findIdx?_eq_some_iff_getElem] at h
  obtain⟨hi,h1,_⟩:=h
  have:l[i]=x:=by simpa using h1
  exact⟨fun _=>this ▸ List.getElem_mem hi,fun _=>by omega⟩
 ·rename_i h
  rw[List.findIdx?_eq_none_iff] at h
  exact⟨fun h'=>by omega,fun h'=>by have:=h x h'; simp at this⟩
theorem Nl {k:Nat}{v:AV}{l:List BB}{x:BB}{st:St}(h:Ci v 1 (strs l))(hl:l.length<1000000) :
 AX E (k+2) 65 [v,.str x] st=.ret (.bool (decide (x∈l)),st):=by
 rw[Ai (fn:=C.f65) rfl rfl rfl,Af (by simp)]
 have e:=ZU (l:=l) (x:=x)
 simp[C.f65,Su h hl,leave,results,AR]
 simpa using e
theorem bL {k:Nat}{v:AV}{g:Ak}{x:BB}{st:St}(hg:Bl v g)(hs:g.GA)(hb:HB st) :
 AX E (k+3) 33 [v,.str x] st=.ret (.bool (decide (x∈g.kinds)),st):=by
 obtain⟨kv,rv,l,rfl,hk,_⟩:=hg
 have hkn:=hs.kinds
 rw[CY (fn:=C.f33) rfl rfl rfl,Af (by simp)]
 have hb':∀p x,(p,x)∈st.h->p<st.c:=hb
 have hbx:Gy st.c 29 3 (.agg [kv,.str g.start,rv])=some (.AO st.c 0,.cells 29 3 [kv,.str g.start,rv] false):=rfl
 have hrd:AP ((st.c,Al.cells 29 3 [kv,.str g.start,rv] false)::st.h) (.AO st.c 0)=some kv:=by rw[AL (by rw[AJ,if_pos rfl])]; rfl
 simp[C.f33,hbx,Ao hb',hrd,Nl hk (by omega),leave,results,AR]
theorem ZL {k:Nat}{st:St}{p:Nat}{lf x:BB}{w lv:AV}{ty:Nat}{ext:Bool}(hb:HB st)(hp:AA st.h p=some (.cells ty 1 [.str x] ext)) :
 AX E (k+1) 66 [.agg [.str lf,w,lv],.AO p 0] st=.ret (.bool (lf==x),st):=by
 rw[CY (fn:=C.f66) rfl rfl rfl,Af (by simp)]
 have hb':∀p x,(p,x)∈st.h->p<st.c:=hb
 have hpc:p≠st.c:=fun e=>by
  have:=Js hb (show st.c<=p by omega)
  rw[hp] at this; cases this
 have hbx:Gy st.c 47 3 (.agg [.str lf,w,lv])=some (.AO st.c 0,.cells 47 3 [.str lf,w,lv] false):=rfl
 have hrd:AP ((st.c,Al.cells 47 3 [.str lf,w,lv] false)::st.h) (.AO st.c 0)=some (.str lf):=by rw[AL (by rw[AJ,if_pos rfl])]; rfl
 have hrd2:AP ((st.c,Al.cells 47 3 [.str lf,w,lv] false)::st.h) (.AO p 0)=some (.str x):=by rw[AL (by rw[AJ,if_neg (Ne.symm hpc)]; exact hp)]; rfl
 simp[C.f66,hbx,Ao hb',hrd,hrd2,leave,results,AR]
def Ak.isLeft (g:Ak)(x:BB):Bool:=g.rules.any fun r=>r.left==x
theorem Mx.eB {v:AV}{r:Bf}(h:Mx v r):∃w lv,v=.agg [.str r.left,w,lv]:=by
 obtain⟨w,rfl,_⟩:=h
 exact⟨w,_,rfl⟩
theorem bF {k:Nat}{v:AV}{g:Ak}{x:BB}{st:St}(hg:Bl v g)(hs:g.GA)(hb:HB st) :
 AX E (k+5) 36 [v,.str x] st=.ret (.bool (g.isLeft x),st):=by
 obtain⟨kv,rv,l,rfl,_,hr,hrs⟩:=hg
 have hm:=hs.many
 have hln:=hrs.length
 rw[CY (fn:=C.f36) rfl rfl rfl,Af (by simp)]
 have hb':∀p x,(p,x)∈st.h->p<st.c:=hb
 have hbx:Gy st.c 29 3 (.agg [kv,.str g.start,rv])=some (.AO st.c 0,.cells 29 3 [kv,.str g.start,rv] false):=rfl
 have hbx2:Gy (st.c+1) 9 1 (.str x)=some (.AO (st.c+1) 0,.cells 9 1 [.str x] false):=rfl
 let S:St:=⟨(st.c+1,.cells 9 1 [.str x] false)::(st.c,.cells 29 3 [kv,.str g.start,rv] false)::st.h,st.c+2,st.c⟩
 have n1:newObj st.c (.cells 29 3 [kv,.str g.start,rv] false) ⟨st.h,st.c+2,st.c⟩=some ⟨(st.c,.cells 29 3 [kv,.str g.start,rv] false)::st.h,st.c+2,st.c⟩:=Ao hb'
 have n2:newObj (st.c+1) (.cells 9 1 [.str x] false) ⟨(st.c,.cells 29 3 [kv,.str g.start,rv] false)::st.h,st.c+2,st.c⟩=some S:=Ao fun p y hy=>by
  rcases List.mem_cons.1 hy with h|h
  ·cases h; omega
  ·have:=hb' p y h; omega
 have hbS:HB S:=fun p y hy=>by
  show p<st.c+2
  rcases List.mem_cons.1 hy with h|h
  ·cases h; omega
  ·rcases List.mem_cons.1 h with h|h
   ·cases h; omega
   ·have:=hb' p y h; omega
 have hfx:AA S.h (st.c+1)=some (.cells 9 1 [.str x] false):=by show AA ((st.c+1,_)::_) _=_; rw[AJ,if_pos rfl]
 have hrd:AP S.h (.AO st.c 2)=some rv:=by rw[AL (by show AA ((st.c+1,_)::_) _=_; rw[AJ,if_neg (by omega),AJ,if_pos rfl])]; rfl
 have hc:=Fw (k:=k+2) (n:=l.length) (w:=rv) (fc:=66) (a:=[]) (b:=[.AO (st.c+1) 0]) (el:=fun i=>(l.getD i .undef).cells) (p:=fun i=>((g.rules.getD i default).left==x)) (st:=S) hr.bD (by omega) (fun i hi=>by
  obtain⟨w,lv,e⟩:=(hrs.get i (by omega)).2.eB
  refine⟨.BN l[i].cells,hr.idx hi,?_⟩
  have hg:l.getD i .undef=l[i]:=by simp[List.getD,hi]
  rw[hg,e]; simp[Ac,AV.cells,ble_eq]) (fun i hi=>by
  obtain⟨w,lv,e⟩:=(hrs.get i (by omega)).2.eB
  have hg:l.getD i .undef=l[i]:=by simp[List.getD,hi]
  have hg2:g.rules.getD i default=g.rules[i]'(by omega):=by simp[List.getD,show i<g.rules.length by omega]
  rw[hg,e,hg2]
  exact ZL hbS hfx)
 have hany:decide (∃i,i<l.length/\((g.rules.getD i default).left==x)=true)=g.isLeft x:=by
  rw[Bool.eq_iff_iff]
  simp only[decide_eq_true_eq,Ak.isLeft,List.any_eq_true]
  constructor
  ·rintro⟨i,hi,h⟩
   have hg2:g.rules.getD i default=g.rules[i]'(by omega):=by simp[List.getD,show i<g.rules.length by omega]
   rw[hg2] at h
   exact⟨_,List.getElem_mem _,h⟩
  ·rintro⟨r,hr,h⟩
   obtain⟨i,hi,rfl⟩:=List.getElem_of_mem hr
   refine⟨i,by omega,?_⟩
   have hg2:g.rules.getD i default=g.rules[i]:=by simp[List.getD,hi]
   rw[hg2]; exact h
 rw[hany] at hc
 simp[C.f36,hbx,hbx2,n1,n2,hrd,hc,leave,results,AR]
theorem fF {k:Nat}{x l u:Int}{st:St}:AX E (k+1) 63 [.int .i64 x,.int .i64 l,.int .i64 u] st=.ret (.bool (decide (l<=x/\x<=u)),st):=by
 rw[Ai (fn:=C.f63) rfl rfl rfl,Af (by simp)]
 by_cases h:l<=x
 ·by_cases h2:x<=u
  ·simp[C.f63,Ap,Aj,h,h2,leave,results,AR]
  ·simp[C.f63,Ap,Aj,h,h2,leave,results,AR]
 ·simp[C.f63,Ap,Aj,h,leave,results,AR]
theorem MS {k:Nat}{s:BB}{b:UInt8}{st:St}{v:AV}(h:Dc (.str s) (.int .u8 b.toNat) st=some (v,st)):AX E (k+2) 64 [.str s,.int .u8 b.toNat] st=.ret (v,st):=by
 rw[Ai (fn:=C.f64) rfl rfl rfl,Af (by simp)]
 have h1:AX E (k+1) 108 [.str s,.int .u8 b.toNat] st=.ret (v,st):=by
  rw[Ai (fn:=C.f108) rfl rfl rfl,Af (by simp)]
  simp[C.f108,UY,GD,h,leave,results,AR]
 simp[C.f64,h1,leave,results,AR]
def VB (l:BB)(b:UInt8):Int:=match l.findIdx? (fun c=>c==b) with|some i=>i|none=>-1
theorem Sb (b:UInt8):byteOf (.int .u8 b.toNat)=some b:=by
 simp[byteOf]
theorem LW {s:BB}{b:UInt8}{st:St}:Dc (.str s) (.int .u8 b.toNat) st=some (.int .i64 (VB s b),st):=by
 simp only[Dc,Sb]
 unfold VB
 cases s.findIdx? (fun c=>c==b) <;> rfl
def alpha:BB:=[97,98,99,100,101,102,103,104,105,106,107,108,109,110,111,112,113,114,115,116,117,118,119,120,121,122]
def RD:BB:=[97,98,99,100,101,102,103,104,105,106,107,108,109,110,111,112,113,114,115,116,117,118,119,120,121,122,48,49,50,51,52,53,54,55,56,57,95]
theorem dC {p:UInt8->Bool}(h:(List.range 256).all (fun n=>p (UInt8.ofNat n))=true)(b:UInt8):p b=true:=by
 have:=List.all_eq_true.1 h b.toNat (List.mem_range.2 b.toNat_lt)
 simpa using this
theorem Zt (b:UInt8):decide (VB alpha b<0)=!Jf b:=by
 have:=dC (p:=fun b=>decide (VB alpha b<0)==!Jf b) (by decide +kernel) b
 simpa using this
theorem cz (b:UInt8):decide (VB RD b<0)=!LF b:=by
 have:=dC (p:=fun b=>decide (VB RD b<0)==!LF b) (by decide +kernel) b
 simpa using this
theorem eY {k:Nat}{b:UInt8}{st:St}:AX E (k+2) 64 [.str alpha,.int .u8 b.toNat] st=.ret (.int .i64 (VB alpha b),st):=MS LW
theorem Zu {k:Nat}{b:UInt8}{st:St}:AX E (k+2) 64 [.str RD,.int .u8 b.toNat] st=.ret (.int .i64 (VB RD b),st):=MS LW
theorem Ww {k:Nat}{s:BB}{st:St}(hs:s.length<=100000)(ts0:TS)(h0:ts0.get 0=.str s)(h15:ts0.get 15=.int .i64 (s.length:Int))(h16:ts0.get 16=.int .i64 ((0:Nat):Int)) :
 (Dh (BF E (AX E (k+2)) C.f31L0) E.k ts0 st).to fun x=>x.2.2=st/\((x.1=.exit 0/\s.all LF=true)∨(x.1=.ret/\x.2.1.get 2=.bool false/\s.all LF=false)):=by
 refine DI (fun (i:Nat) ts st'=>st'=st/\i<=s.length/\ts.get 0=.str s/\ts.get 15=.int .i64 (s.length:Int)/\ts.get 16=.int .i64 (i:Int)/\∀j (hj:j<s.length),j<i->LF s[j]=true)
  (fun i=>s.length-i) ?_ _ 0 _ _ ?_ ?_
 ·rintro i ts st' ⟨rfl,hi,h0,h15,h16,hall⟩
  by_cases Bc:i<s.length
  ·have hix:CR (.str s) (.int .i64 (i:Int)) st'=some (.int .u8 s[i].toNat,st'):=by simp[CR,Bd,Bc]
   have ha:=cz s[i]
   have hrun:=Zu (k:=k) (b:=s[i]) (st:=st')
   unfold RD at hrun
   cases hin:LF s[i] with
   |true=>
    rw[hin] at ha
    simp only[Bool.not_true,decide_eq_false_iff_not] at ha
    simp[C.f31L0,h0,h15,h16,Bc,hix,hrun,wi i]
    unfold RD at ha
    simp[ha,h0,h15,h16,wi i]
    refine⟨i+1,by omega,by omega,by simp,fun j hj h=>?_⟩
    rcases Nat.lt_or_ge j i with h'|h'
    ·exact hall j hj h'
    ·have:j=i:=by omega
     subst this; exact hin
   |false=>
    rw[hin] at ha
    simp only[Bool.not_false,decide_eq_true_eq] at ha
    unfold RD at ha
    simp[C.f31L0,h0,h15,h16,Bc,hix,hrun,ha]
    exact⟨s[i],List.getElem_mem Bc,hin⟩
  ·have:i=s.length:=by omega
   subst this
   simp[C.f31L0,h15,h16]
   intro b hb
   obtain⟨j,hj,rfl⟩:=List.getElem_of_mem hb
   exact hall j hj hj
 ·show s.length-0<1000000; omega
 ·exact⟨rfl,by omega,h0,h15,h16,fun j hj h=>by omega⟩
theorem Rw {k:Nat}{s:BB}{st:St}(hs:s.length<=100000):AX E (k+3) 31 [.str s] st=.ret (.bool (FP s),st):=by
 rw[Ai (fn:=C.f31) rfl rfl rfl,Af (by simp)]
 have goal:((BF E (AX E (k+2)) C.f31.body (TS.Cm [.str s] 0 .nil) st).bind (leave C.f31.results)).to fun r=>r=(.bool (FP s),st):=by
  have hin:=fun n l u=>fF (k:=k+1) (x:=n) (l:=l) (u:=u) (st:=st)
  cases s with
  |nil=>simp[C.f31,Ap,Aj,Be,Jq,hin,FP,leave,results,AR]
  |cons b l=>
   have hl:((b::l).length:Int)=(l.length:Int)+1:=by simp
   have h1':1<=(l.length:Int)+1:=by omega
   by_cases h40:l.length<40
   ·have h40':(l.length:Int)+1<=40:=by omega
    have hix:CR (.str (b::l)) (.int .i64 0) st=some (.int .u8 b.toNat,st):=rfl
    have ha:=Zt b
    have hrun:=eY (k:=k) (b:=b) (st:=st)
    unfold alpha at hrun ha
    cases hb:Jf b with
    |true=>
     rw[hb] at ha
     simp only[Bool.not_true,decide_eq_false_iff_not] at ha
     have loop:=fun ts0 z0 z15 z16=>Ww (k:=k) (st:=st) hs ts0 z0 z15 z16
     simp[C.f31,Ap,Aj,Be,Jq,hl,hin,h1',h40',hix,hrun,ha]
     refine M.BX (loop _ (by simp) (by simp) (by simp)) fun x hx=>?_
     obtain⟨e,ts1,st1⟩:=x
     obtain⟨rfl,⟨rfl,ha⟩|⟨rfl,hf,ha⟩⟩:=hx
     ·simp[leave,results,AR,FP,h40,hb]
      simpa using ha
     ·simp only at hf ha
      simp[leave,results,AR,FP,h40,hb,hf]
      simpa using ha
    |false=>
     rw[hb] at ha
     simp only[Bool.not_false,decide_eq_true_eq] at ha
     simp[C.f31,Ap,Aj,Be,Jq,hl,hin,h1',h40',hix,hrun,ha,hb,FP,leave,results,AR]
   ·have h40':¬(l.length:Int)+1<=40:=by omega
    simp[C.f31,Ap,Aj,Be,Jq,hl,hin,h1',h40',FP,h40,leave,results,AR]
 obtain⟨r,h1,h2⟩:=goal
 rw[h1,h2]
theorem UH {k q:Nat}{st:St}{la lb:BB}{wa wb:AV}{ra rb:List BB}{na nb:Int}(hb:HB st)(hq:q<st.c)(hf:AA st.h q=some (.cells 47 3 [.str lb,wb,.int .i64 nb] false))(hra:ra.length<1000000)(r1:∀h:Heap,(∀p,p<st.c->AA h p=AA st.h p)->Reads h wa ra)(r2:∀h:Heap,(∀p,p<st.c->AA h p=AA st.h p)->Reads h wb rb) :
 AX E (k+2) 32 [.agg [.str la,wa,.int .i64 na],.AO q 0] st=.ret (.bool (decide (la=lb/\ra=rb)),st):=by
 rw[CY (fn:=C.f32) rfl rfl rfl,Af (by simp)]
 have hb':∀p x,(p,x)∈st.h->p<st.c:=hb
 have hfr:∀p,p<st.c->AA ((st.c,Al.cells 47 3 [.str la,wa,.int .i64 na] false)::st.h) p=AA st.h p:=fun p hp=>by rw[AJ,if_neg (by omega)]
 have f1:AA ((st.c,Al.cells 47 3 [.str la,wa,.int .i64 na] false)::st.h) st.c=some (.cells 47 3 [.str la,wa,.int .i64 na] false):=by rw[AJ,if_pos rfl]
 have f2:=(hfr q hq).trans hf
 have e1:AP ((st.c,Al.cells 47 3 [.str la,wa,.int .i64 na] false)::st.h) (.AO st.c 0)=some (.str la):=by rw[AL f1]; rfl
 have e2:AP ((st.c,Al.cells 47 3 [.str la,wa,.int .i64 na] false)::st.h) (.AO st.c 1)=some wa:=by rw[AL f1]; rfl
 have e3:AP ((st.c,Al.cells 47 3 [.str la,wa,.int .i64 na] false)::st.h) (.AO q 0)=some (.str lb):=by rw[AL f2]; rfl
 have e4:AP ((st.c,Al.cells 47 3 [.str la,wa,.int .i64 na] false)::st.h) (.AO q 1)=some wb:=by rw[AL f2]; rfl
 have heq:=fun (c' l':Nat)=>KU (k:=k) (st:=⟨(st.c,.cells 47 3 [.str la,wa,.int .i64 na] false)::st.h,c',l'⟩) (r1 _ hfr) (r2 _ hfr) hra
 by_cases h:la=lb
 ·subst h
  simp[C.f32,Gy,AV.isTuple,AV.cells,Ao hb',JX,e1,e2,e3,e4,heq,leave,results,AR]
 ·simp[C.f32,Gy,AV.isTuple,AV.cells,Ao hb',JX,e1,e2,e3,e4,h,beq_false_of_ne h,leave,results,AR]
theorem NT:∀(x y:BB),Op.bytesLess x y=decide (x<y)
 |[],[]=>by simp[Op.bytesLess]
 |_::_,[]=>by simp[Op.bytesLess]
 |[],_::_=>by simp[Op.bytesLess]
 |a::x,b::y=>by
  rw[Op.bytesLess,NT x y]
  simp only[List.cons_lt_cons_iff]
  by_cases h1:a<b <;> by_cases h2:a=b <;> by_cases h3:x<y <;> simp[h1,h2,h3]
theorem Me (x:BB):¬x<x:=List.lt_irrefl x
theorem Rq {x y z:BB}(h:x<y)(k:y<z):x<z:=List.lt_trans h k
theorem Yi {x y:BB}(h:¬x<y)(k:x≠y):y<x:=by
 rcases Decidable.em (y<x) with h'|h'
 ·exact h'
 ·exact absurd (List.le_antisymm (as:=x) (bs:=y) (by simpa using h') (by simpa using h)) k
theorem Yj {x y:BB}(h:x<y):¬y<x:=fun k=>Me x (Rq h k)
def Up (l:List BB):Prop:=l.Pairwise (·<·)
def Ym (x:BB):List BB->List BB
 |[]=>[x]
 |y::l=>if x<y then x::y::l else if x=y then y::l else y::Ym x l
theorem Ug {x s:BB}:∀{l:List BB},s∈Ym x l↔s=x∨s∈l
 |[]=>by simp[Ym]
 |y::l=>by
  unfold Ym
  split
  ·simp
  ·split
   ·rename_i h; subst h; simp
   ·rw[List.mem_cons,Ug,List.mem_cons]; constructor <;> (rintro (h|h|h) <;> simp[h])
def Sw (l:List BB):List BB:=l.foldr Ym []
theorem Wz {l:List BB}{s:BB}:s∈Sw l↔s∈l:=by
 induction l with
 |nil=>simp[Sw]
 |cons x l ih=>show s∈Ym x (Sw l)↔_; rw[Ug,ih,List.mem_cons]
def Ak.SB (g:Ak):List BB:=Sw (g.rules.map (·.left))
theorem Ak.Lv {g:Ak}{s:BB}:s∈g.SB↔g.isLeft s=true:=by
 unfold Ak.SB Ak.isLeft
 rw[Wz]; simp
theorem Up.nodup {l:List BB}(h:Up l):l.Nodup:=by
 refine List.Pairwise.imp ?_ h
 intro a b hab e; subst e; exact Me _ hab
def Jt (f:Nat->Int):Nat->Int
 |0=>0
 |n+1=>if Jt f n=0 then f n else Jt f n
theorem Gi {f:Nat->Int}:∀{n:Nat},(∀j,j<n->f j=0)->Jt f n=0
 |0,_=>rfl
 |n+1,h=>by rw[Jt,Gi fun j hj=>h j (by omega),if_pos rfl]; exact h n (by omega)
theorem KS {f:Nat->Int}{i:Nat}(h:∀j,j<i->f j=0)(hne:f i≠0):∀{n:Nat},i<n->Jt f n=f i
 |0,hi=>absurd hi (by omega)
 |n+1,hi=>by
  rw[Jt]
  by_cases e:i=n
  ·subst e; rw[Gi h,if_pos rfl]
  ·rw[KS h hne (show i<n by omega),if_neg hne]
theorem JS {f:Nat->Int}:∀{n:Nat},Jt f n=0->∀j,j<n->f j=0
 |0,_=>fun j hj=>absurd hj (by omega)
 |n+1,h=>by
  rw[Jt] at h
  split at h
  ·rename_i h0
   intro j hj
   by_cases e:j=n
   ·subst e; exact h
   ·exact JS h0 j (by omega)
  ·rename_i h0; exact absurd h h0
def Gt (l:List BB)(i:Nat):Int:=if FP (l.getD i [])=false then 5 else if 0<i/\¬l.getD (i-1) []<l.getD i [] then 7 else 0
def QF (a b:Bf):Bool:=decide (a.left=b.left/\a.right=b.right)
def JN (g:Ak)(i:Nat):Int:=
 if FP (g.rules.getD i default).left=false then 5
 else if (g.rules.getD i default).left∈g.kinds then 13
 else if 20<(g.rules.getD i default).right.length then 2
 else if ¬(0<=(g.rules.getD i default).level/\(g.rules.getD i default).level<=99) then 1
 else if ∃j,j<i/\QF (g.rules.getD j default) (g.rules.getD i default)=true then 6 else 0
def Ak.sym (g:Ak)(s:BB):Bool:=decide (s∈g.kinds)||g.isLeft s
def Ak.Cn (g:Ak):Int:=Jt (Gt g.kinds) g.kinds.length
def Ak.GG (g:Ak):Int:=Jt (JN g) g.rules.length
def Ak.JI (g:Ak):Bool:=g.rules.all fun r=>r.right.all g.sym
def Ak.fault (g:Ak):Int:=
 if g.Cn≠0 then g.Cn else if g.rules.length=0 then 8 else if g.GG≠0 then g.GG
 else if g.JI=false then 8 else if g.isLeft g.start=false then 8 else 0
structure Ak.Ok (g:Ak):Prop where
 up:Up g.kinds
 apart:∀s,s∈g.kinds->s∉g.SB
 syms:∀r∈g.rules,∀s∈r.right,s∈g.kinds∨s∈g.SB
 start:g.start∈g.SB
theorem WL {l:List BB}(h:∀i,0<i->i<l.length->l.getD (i-1) []<l.getD i []):Up l:=by
 induction l with
 |nil=>simp[Up]
 |cons x l ih=>
  have ih':Up l:=ih fun i h0 hi=>by
   have:=h (i+1) (by omega) (by simpa using hi)
   obtain⟨i,rfl⟩:∃k,i=k+1:=⟨i-1,by omega⟩
   simpa using this
  refine List.pairwise_cons.2 ⟨?_,ih'⟩
  cases l with
  |nil=>simp
  |cons y l=>
   have hxy:x<y:=by simpa using h 1 (by omega) (by simp)
   intro s hs
   rcases List.mem_cons.1 hs with e|hs
   ·subst e; exact hxy
   ·exact Rq hxy ((List.pairwise_cons.1 ih').1 s hs)
theorem Ak.ok {g:Ak}(h:g.fault=0):g.Ok:=by
 unfold Ak.fault at h
 split at h
 ·rename_i h1; exact absurd h h1
 rename_i h1
 split at h
 ·cases h
 split at h
 ·rename_i h1; exact absurd h h1
 rename_i h2
 split at h
 ·cases h
 rename_i h3
 split at h
 ·cases h
 rename_i h4
 simp only[ne_eq,Decidable.not_not] at h1 h2
 refine⟨WL fun i h0 hi=>?_,fun s hs hl=>?_,fun r hr s hs=>?_,Ak.Lv.2 (by simpa using h4)⟩
 ·have:=JS h1 i hi
  unfold Gt at this
  split at this
  ·cases this
  split at this
  ·cases this
  rename_i h5
  exact Decidable.not_not.1 fun h6=>h5 ⟨h0,h6⟩
 ·have hl':=Ak.Lv.1 hl
  unfold Ak.isLeft at hl'
  simp only[List.any_eq_true,beq_iff_eq] at hl'
  obtain⟨r,hr,rfl⟩:=hl'
  obtain⟨i,hi,rfl⟩:=List.getElem_of_mem hr
  have:=JS h2 i hi
  unfold JN at this
  have e:g.rules.getD i default=g.rules[i]:=by simp[List.getD,hi]
  rw[e] at this
  split at this
  ·cases this
  first
   |cases this
   |(rw[if_pos hs] at this; cases this)
 ·have h3':g.JI=true:=by simpa using h3
  unfold Ak.JI at h3'
  have:=List.all_eq_true.1 (List.all_eq_true.1 h3' r hr) s hs
  unfold Ak.sym at this
  simp only[Bool.or_eq_true,decide_eq_true_eq] at this
  rcases this with h|h
  ·exact .inl h
  ·exact .inr (Ak.Lv.2 h)
inductive oV (base:BB->Prop) (g:Ak):BB->Prop
 |base {s:BB} (h:base s):oV base g s
 |Yr {r:Bf} (hr:r∈g.rules) (h:∀x∈r.right,oV base g x):oV base g r.left
inductive Reach (g:Ak):BB->Prop
 |start:Reach g g.start
 |step {r:Bf} {x:BB} (hr:r∈g.rules) (h:Reach g r.left) (hx:x∈r.right):Reach g x
def nS (g:Ak):BB->Prop:=oV (fun _=>False) g
def iM (g:Ak)(s x:BB):Prop:=∃r∈g.rules,r.left=s/\∃a b,r.right=a++x::b/\(∀y∈a,nS g y)/\∀y∈b,nS g y
inductive Tu (g:Ak) (s:BB):BB->Prop
 |one {x:BB} (h:iM g s x):Tu g s x
 |more {x y:BB} (h:Tu g s x) (k:iM g x y):Tu g s y
theorem PI {k:Nat}{g:Ak}{kv rv:AV}{st:St}(hk:Ci kv 1 (strs g.kinds))(hs:g.GA)(hf:AA st.h 0=some (.cells 29 3 [kv,.str g.start,rv] false))(ts0:TS)(h1:ts0.get 1=.AO 0 0)(h17:ts0.get 17=kv)(h18:ts0.get 18=.int .i64 (g.kinds.length:Int))(h19:ts0.get 19=.int .i64 ((0:Nat):Int)) :
 (Dh (BF E (AX E (k+3)) C.f8L0) E.k ts0 st).to fun x=>x.2.2=st/\((x.1=.exit 0/\g.Cn=0/\x.2.1.get 1=.AO 0 0)∨(x.1=.ret/\g.Cn≠0/\x.2.1.get 2=.int .i64 g.Cn)):=by
 have hkn:=hs.kinds
 have hr0:AP st.h (.AO 0 0)=some kv:=by rw[AL hf]; rfl
 refine DI (fun (i:Nat) ts st'=>st'=st/\i<=g.kinds.length/\ts.get 1=.AO 0 0/\ts.get 17=kv/\ts.get 18=.int .i64 (g.kinds.length:Int)/\ts.get 19=.int .i64 (i:Int)/\∀j,j<i->Gt g.kinds j=0)
  (fun i=>g.kinds.length-i) ?_ _ 0 _ _ ?_ ?_
 ·rintro i ts st' ⟨rfl,hi,h1,h17,h18,h19,hall⟩
  by_cases Bc:i<g.kinds.length
  ·have hnm:=hs.names _ (List.getElem_mem Bc)
   have hrun:=Rw (k:=k) (s:=g.kinds[i]) (st:=st') (by omega)
   have hget:g.kinds.getD i []=g.kinds[i]:=by simp[List.getD,Bc]
   have bad:∀n,Gt g.kinds i=n->n≠0->g.Cn=n:=fun n h hn=>by
    unfold Ak.Cn; rw[KS hall (by rw[h]; exact hn) Bc,h]
   cases hn:FP g.kinds[i] with
   |false=>
    have hb:=bad 5 (by unfold Gt; rw[hget,hn]; simp) (by decide)
    simp[C.f8L0,h1,h17,h18,h19,Bc,hk.Jr Bc,hrun,hn,hb]
   |true=>
    by_cases h0:i=0
    ·subst h0
     have hix0:Ad 1 kv (.int .i64 0) st'=some (.BN [.str g.kinds[0]],st'):=hk.Jr (i:=0) Bc
     have good:Gt g.kinds 0=0:=by unfold Gt; rw[hget,hn]; simp
     simp[C.f8L0,Ap,Aj,h1,h17,h18,h19,Bc,hix0,hrun,hn,wrap64 (n:=(1:Int)) (by omega) (by omega)]
     exact⟨1,by omega,by omega,by simp,fun j hj=>by
      have:j=0:=by omega
      subst this; exact good⟩
    ·have hp:i-1<g.kinds.length:=by omega
     have hcast:((i:Int)-1)=((i-1:Nat):Int):=by omega
     have hpos:0<i:=by omega
     have hgp:g.kinds.getD (i-1) []=g.kinds[i-1]:=by simp[List.getD,hp]
     by_cases hless:g.kinds[i-1]<g.kinds[i]
     ·have good:Gt g.kinds i=0:=by unfold Gt; rw[hget,hgp,hn]; simp[hless]
      simp[C.f8L0,Ap,Aj,h1,h17,h18,h19,Bc,hk.Jr Bc,hrun,hn,hpos,hr0,wrap64 (n:=((i-1:Nat):Int)) (by omega) (by omega),hcast,hk.Jr hp,NT,hless,wi i]
      refine⟨i+1,by omega,by omega,by simp,fun j hj=>?_⟩
      rcases Nat.lt_or_ge j i with h|h
      ·exact hall j h
      ·have:j=i:=by omega
       subst this; exact good
     ·have hb:=bad 7 (by unfold Gt; rw[hget,hgp,hn]; simp[hless]; omega) (by decide)
      simp[C.f8L0,Ap,Aj,h1,h17,h18,h19,Bc,hk.Jr Bc,hrun,hn,hpos,hr0,wrap64 (n:=((i-1:Nat):Int)) (by omega) (by omega),hcast,hk.Jr hp,NT,hless,hb]
  ·have:i=g.kinds.length:=by omega
   subst this
   have:g.Cn=0:=Gi hall
   simp[C.f8L0,h1,h18,h19,this]
 ·show g.kinds.length-0<1000000; omega
 ·exact⟨rfl,by omega,h1,h17,h18,h19,fun j h=>by omega⟩
theorem Ci.cut {v:AV}{sz:Nat}{xs:List AV}{st:St}(h:Ci v sz xs){i:Nat}(hi:i<=xs.length) :
 ∃w,Bz sz false true false [v,.int .i64 (i:Int)] st=some (w,st)/\Ci w sz (xs.take i):=by
 rcases h.out with⟨rfl,rfl⟩|⟨t,rfl⟩
 ·have:i=0:=by simpa using hi
  subst this
  exact⟨.AB,rfl,⟨.inl ⟨rfl,rfl⟩⟩⟩
 ·refine⟨.list (t&&Nat.beq i xs.length) sz (xs.take i),?_,⟨.inr ⟨_,rfl⟩⟩⟩
  simp[Bz,DC,Bd,CE,beq_eq,Iy,ble_eq,hi]
theorem Ci.from_ {v:AV}{sz:Nat}{xs:List AV}{st:St}(h:Ci v sz xs){i:Nat}(hi:i<=xs.length) :
 ∃w,Bz sz true false false [v,.int .i64 (i:Int)] st=some (w,st)/\Ci w sz (xs.drop i):=by
 rcases h.out with⟨rfl,rfl⟩|⟨t,rfl⟩
 ·have:i=0:=by simpa using hi
  subst this
  exact⟨.AB,rfl,⟨.inl ⟨rfl,rfl⟩⟩⟩
 ·refine⟨.list (t&&Nat.beq xs.length xs.length) sz (xs.drop i),?_,⟨.inr ⟨_,rfl⟩⟩⟩
  simp[Bz,DC,Bd,CE,beq_eq,Iy,ble_eq,hi]
theorem HB.cons {h:Heap}{c lo c' p:Nat}{x:Al}(hb:HB ⟨h,c,lo⟩)(hp:p<c')(hc:c<=c'){lo':Nat}:HB ⟨(p,x)::h,c',lo'⟩:=by
 intro q y hq
 rcases List.mem_cons.1 hq with e|hm
 ·cases e; exact hp
 ·exact Nat.lt_of_lt_of_le (hb q y hm) hc
theorem HB.up {h:Heap}{c lo c':Nat}(hb:HB ⟨h,c,lo⟩)(hc:c<=c'){lo':Nat}:HB ⟨h,c',lo'⟩:=fun q y hm=>Nat.lt_of_lt_of_le (hb q y hm) hc
theorem HB.lo {st:St}(hb:HB st){l:Nat}:HB { st with lo:=l }:=hb
theorem DY {h:Heap}{c c' lo ty n:Nat}{zs vs:List AV}(hlo:lo<=c)(h1:vs.length=n)(h2:zs.length=n) :
 BJ n (.AO c 0) (.agg vs) ⟨(c,.cells ty n zs false)::h,c',lo⟩=some (.undef,⟨(c,.cells ty n vs false)::h,c',lo⟩):=by
 rw[FW (cs:=zs) (ty:=ty) (sz:=n) (ext:=false) (by rw[AJ,if_pos rfl]) hlo h1 h2]
 simp[Aa]
theorem aM {k:Nat}{v:AV}{g:Ak}{x:BB}{st:St}(hg:Bl v g)(hs:g.GA)(hb:HB st) :
 AX E (k+6) 35 [v,.str x] st=.ret (.bool (g.sym x),st):=by
 have hg':=hg
 obtain⟨kv,rv,l,rfl,hk,hr,hrs⟩:=hg'
 rw[CY (fn:=C.f35) rfl rfl rfl,Af (by simp)]
 have hb':∀p x,(p,x)∈st.h->p<st.c:=hb
 have hbx:Gy st.c 29 3 (.agg [kv,.str g.start,rv])=some (.AO st.c 0,.cells 29 3 [kv,.str g.start,rv] false):=rfl
 have hbS:∀{c lo:Nat},st.c+1<=c->HB ⟨(st.c,.cells 29 3 [kv,.str g.start,rv] false)::st.h,c,lo⟩:=fun {c lo} hc=>HB.cons (h:=st.h) (c:=st.c) (lo:=st.lo) hb (by omega) (by omega)
 have hrd:Ac ((st.c,Al.cells 29 3 [kv,.str g.start,rv] false)::st.h) (.AO st.c 0) 3=some [kv,.str g.start,rv]:=Bj (by rw[AJ,if_pos rfl]) rfl
 have hkr:=bL (k:=k+2) (x:=x) (st:=⟨(st.c,.cells 29 3 [kv,.str g.start,rv] false)::st.h,st.c+1,st.c⟩) hg hs (hbS (by omega))
 have hlr:=bF (k:=k) (x:=x) (st:=⟨(st.c,.cells 29 3 [kv,.str g.start,rv] false)::st.h,st.c+1,st.c⟩) hg hs (hbS (by omega))
 cases hx:decide (x∈g.kinds) with
 |true=>rw[hx] at hkr; simp[C.f35,Ap,Aj,hbx,Ao hb',hrd,hkr,leave,results,AR,Ak.sym,hx]
 |false=>rw[hx] at hkr; simp[C.f35,Ap,Aj,hbx,Ao hb',hrd,hkr,hlr,leave,results,AR,Ak.sym,hx]
structure FS (gs:List AV)(st:St):Prop where
 hb:HB st
 g0:AA st.h 0=some (.cells 29 3 gs false)
 c0:0<st.c
 lo:st.lo=0
set_option maxHeartbeats 4000000 in
theorem VO {k:Nat}{g:Ak}{kv rv:AV}{l:List AV}(hk:Ci kv 1 (strs g.kinds))(hr:Ci rv 3 l)(hrs:Bo l g.rules)(hs:g.GA)(st:St)(H:FS [kv,.str g.start,rv] st)(ts0:TS)(h1:ts0.get 1=.AO 0 0)(h49:ts0.get 49=rv)(h50:ts0.get 50=.int .i64 (g.rules.length:Int))(h51:ts0.get 51=.int .i64 ((0:Nat):Int)) :
 (Dh (BF E (AX E (k+4)) C.f8L1) E.k ts0 st).to fun x=>FS [kv,.str g.start,rv] x.2.2/\((x.1=.exit 2/\g.GG=0/\x.2.1.get 1=.AO 0 0)∨(x.1=.ret/\g.GG≠0/\x.2.1.get 2=.int .i64 g.GG)):=by
 have hln:=hrs.length
 have hmany:=hs.many
 have hG:Bl (.agg [kv,.str g.start,rv]) g:=⟨kv,rv,l,rfl,hk,hr,hrs⟩
 refine DI (fun (i:Nat) ts st'=>FS [kv,.str g.start,rv] st'/\i<=g.rules.length/\ts.get 1=.AO 0 0/\ts.get 49=rv/\ts.get 50=.int .i64 (g.rules.length:Int)/\ts.get 51=.int .i64 (i:Int)/\∀j,j<i->JN g j=0)
  (fun i=>g.rules.length-i) ?_ _ 0 _ _ ?_ ?_
 ·rintro i ts st' ⟨H,hi,h1,h49,h50,h51,hall⟩
  by_cases Bc:i<g.rules.length
  ·have hil:i<l.length:=by omega
   obtain⟨w,e1,e2⟩:=(hrs.get i Bc).2
   have hsm:=hs.rules _ (List.getElem_mem Bc)
   have hget:g.rules.getD i default=g.rules[i]:=by simp[List.getD,Bc]
   have bad:∀n,JN g i=n->n≠0->g.GG=n:=fun n h hn=>by
    unfold Ak.GG; rw[KS hall (by rw[h]; exact hn) Bc,h]
   obtain⟨h,c,lo⟩:=st'
   have hlo:lo=0:=H.lo
   subst hlo
   have hb':∀p x,(p,x)∈h->p<c:=H.hb
   have hc0:0<c:=H.c0
   have hc1:c≠0:=by omega
   obtain⟨rc,hrc⟩:∃rc:List AV,rc=[.str g.rules[i].left,w,.int .i64 g.rules[i].level]:=⟨_,rfl⟩
   obtain⟨h',hh'⟩:∃h':Heap,h'=(c,Al.cells 47 3 rc false)::h:=⟨_,rfl⟩
   have hbS:HB ⟨h',c+1,0⟩:=hh' ▸ HB.cons (h:=h) (c:=c) (lo:=0) H.hb (by omega) (by omega)
   have HS:FS [kv,.str g.start,rv] ⟨h',c+1,0⟩:=⟨hbS,by rw[hh',AJ,if_neg hc1]; exact H.g0,by show 0<c+1; omega,rfl⟩
   have hix:Ad 3 rv (.int .i64 (i:Int)) ⟨h,c+1,0⟩=some (.BN l[i].cells,⟨h,c+1,0⟩):=hr.idx hil
   have hcells:l[i].cells=rc:=by rw[e1,hrc]; rfl
   rw[hcells] at hix
   have hn:newObj c (.cells 47 3 [.str [],.AB,.int .i64 0] false) ⟨h,c+1,0⟩=some ⟨(c,.cells 47 3 [.str [],.AB,.int .i64 0] false)::h,c+1,0⟩:=Ao hb'
   have hst:=DY (h:=h) (c:=c) (c':=c+1) (lo:=0) (ty:=47) (n:=3) (zs:=[.str [],.AB,.int .i64 0]) (vs:=rc) (by omega) (by rw[hrc]; rfl) rfl
   rw[← hh'] at hst
   have hrd3:Ac h (.BN rc) 3=some rc:=by rw[hrc]; rfl
   have fc:AA h' c=some (.cells 47 3 rc false):=by rw[hh',AJ,if_pos rfl]
   have f0:=HS.g0
   have r0:AP h' (.AO 0 2)=some rv:=by rw[AL f0]; rfl
   have rg:Ac h' (.AO 0 0) 3=some [kv,.str g.start,rv]:=Bj f0 rfl
   have rc0:AP h' (.AO c 0)=some (.str g.rules[i].left):=by rw[AL fc,hrc]; rfl
   have rc1:AP h' (.AO c 1)=some w:=by rw[AL fc,hrc]; rfl
   have rc2:AP h' (.AO c 2)=some (.int .i64 g.rules[i].level):=by rw[AL fc,hrc]; rfl
   obtain⟨w2,c1,c2⟩:=hr.cut (st:=⟨h',c+1,0⟩) (i:=i) (by omega)
   have hln2:(l.take i).length=i:=by simp; omega
   have hcon:=Fw (k:=k+2) (n:=i) (fc:=32) (w:=w2) (a:=[]) (b:=[.AO c 0]) (el:=fun j=>(l.getD j .undef).cells) (p:=fun j=>QF (g.rules.getD j default) g.rules[i]) (st:=⟨h',c+1,0⟩)
    (by rw[c2.bD,hln2]) (by omega) (fun j hj=>by
     have hjl:j<l.length:=by omega
     have hg:l.getD j .undef=l[j]:=by simp[List.getD,hjl]
     obtain⟨w',lv',e'⟩:=(hrs.get j (by omega)).2.eB
     refine⟨.BN l[j].cells,?_,?_⟩
     ·have:=c2.idx (st:=⟨h',c+1,0⟩) (i:=j) (by omega)
      simpa using this
     ·rw[hg,e']; simp[Ac,AV.cells,ble_eq]) (fun j hj=>by
     have hjl:j<l.length:=by omega
     have hg:l.getD j .undef=l[j]:=by simp[List.getD,hjl]
     have hg2:g.rules.getD j default=g.rules[j]'(by omega):=by simp[List.getD,show j<g.rules.length by omega]
     obtain⟨w',e1',e2'⟩:=(hrs.get j (by omega)).2
     have hsm':=hs.rules _ (List.getElem_mem (show j<g.rules.length by omega))
     have hr30:=hsm'.right
     have:=UH (k:=k) (la:=(g.rules[j]'(by omega)).left) (q:=c) (st:=⟨h',c+1,0⟩) (na:=(g.rules[j]'(by omega)).level) hbS (by show c<c+1; omega) (hrc ▸ fc) (by omega) (fun _ _=>Reads.Ub e2') (fun _ _=>Reads.Ub e2)
     rw[hg,e1',hg2]
     exact this)
   have hname:=Rw (k:=k+1) (s:=g.rules[i].left) (st:=⟨h',c+1,0⟩) (by have:=hsm.left; omega)
   have hkind:=bL (k:=k+1) (x:=g.rules[i].left) hG hs hbS
   have hin:=jq (k:=k+3) (x:=g.rules[i].level) (l:=0) (u:=99) (st:=⟨h',c+1,0⟩)
   have hlr:Be .slice w ⟨h',c+1,0⟩=some (.int .i64 (g.rules[i].right.length:Int),⟨h',c+1,0⟩):=by have:=e2.len (st:=⟨h',c+1,0⟩); simpa using this
   have hpair:(ts.get 1)=.AO 0 0:=h1
   have hF:JN g i=bif !FP g.rules[i].left then 5 else bif decide (g.rules[i].left∈g.kinds) then 13 else bif decide (20<g.rules[i].right.length) then 2 else bif !decide (0<=g.rules[i].level/\g.rules[i].level<=99) then 1 else bif decide (∃j,j<i/\QF (g.rules.getD j default) g.rules[i]=true) then 6 else 0:=by
    unfold JN; rw[hget]
    simp only[cond_eq_ite,Bool.not_eq_true',decide_eq_true_eq,decide_eq_false_iff_not]
   have hb3:decide ((20:Int)<(g.rules[i].right.length:Int))=decide (20<g.rules[i].right.length):=by simp only[decide_eq_decide]; omega
   have hgt:bin .gtr (.int .i64 (g.rules[i].right.length:Int)) (.int .i64 20)=some (.bool (decide (20<g.rules[i].right.length))):=by rw[Pp,hb3]
   generalize FP g.rules[i].left=b1 at hF hname
   generalize decide (g.rules[i].left∈g.kinds)=b2 at hF hkind
   generalize decide (20<g.rules[i].right.length)=b3 at hF hgt
   generalize decide (0<=g.rules[i].level/\g.rules[i].level<=99)=b4 at hF hin
   generalize decide (∃j,j<i/\QF (g.rules.getD j default) g.rules[i]=true)=b5 at hF hcon
   simp[C.f8L1,h1,h49,h50,h51,Bc,hix,-Bp,hrd3,hn,hst,r0,c1,hcon,rc0,rc1,rc2,hname,rg,hkind,hlr,-Pp,hgt,hin,M.SQ,wi i]
   cases b1 with
   |false=>simp[bad 5 hF (by decide),HS]
   |true=>
   cases b2 with
   |true=>simp[bad 13 hF (by decide),HS]
   |false=>
   cases b3 with
   |true=>simp[bad 2 hF (by decide),HS]
   |false=>
   cases b4 with
   |false=>simp[bad 1 hF (by decide),HS]
   |true=>
   cases b5 with
   |true=>simp[bad 6 hF (by decide),HS]
   |false=>
   simp[HS,h1,h49,h50]
   refine⟨i+1,by omega,by omega,by simp,fun j hj=>?_⟩
   rcases Nat.lt_or_ge j i with h|h
   ·exact hall j h
   ·have:j=i:=by omega
    subst this; exact hF
  ·have:i=g.rules.length:=by omega
   subst this
   have:g.GG=0:=Gi hall
   simp[C.f8L1,h1,h50,h51,this,H]
 ·show g.rules.length-0<1000000; omega
 ·exact⟨H,by omega,h1,h49,h50,h51,fun j h=>by omega⟩
end Go.Am
