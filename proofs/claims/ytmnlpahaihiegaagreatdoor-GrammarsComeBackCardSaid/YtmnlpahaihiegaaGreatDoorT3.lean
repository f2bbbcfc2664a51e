/- A part of the proof of grammarsComeBack (merged by a program). -/
import Derived.Test.YtmnlpahaihiegaaGreatDoorT2
namespace Go.Am
open Go
theorem SN (c:UInt8):∀(s:BB) (i:Nat),(index.go [c] s i=-1/\splitOn c s=[s])∨∃j,j<s.length/\index.go [c] s i=((i+j:Nat):Int)/\splitOn c s=s.take j::splitOn c (s.drop (j+1))
 |[],i=>by left; exact⟨rfl,rfl⟩
 |b::s,i=>by
  rw[Dx]
  by_cases h:b=c
  ·subst h
   right
   exact⟨0,by simp,by simp[index.go],by simp⟩
  ·have hp:([c]:BB).isPrefixOf (b::s)=false:=by simp[List.isPrefixOf,Ne.symm h]
   have e:index.go [c] (b::s) i=index.go [c] s (i+1):=by rw[index.go,hp]; simp
   rw[e,if_neg h]
   rcases SN c s (i+1) with⟨h1,h2⟩|⟨j,h1,h2,h3⟩
   ·left; exact⟨h1,by rw[h2]; rfl⟩
   ·right; exact⟨j+1,by simp; omega,by rw[h2]; congr 1; omega,by rw[h3]; simp⟩
theorem ZQ {k:Nat}{s:BB}{c:UInt8}{st:St}(h:s.length<=1000000):AX E (k+1) 153 [.str s,.str [c]] st=.ret (.int .i64 (index.go [c] s 0),st):=by
 refine JY (g:=fun _=>hIndex) rfl ?_
 simp[hIndex,ble_eq,h,index]
theorem bC {k:Nat}{s:BB}{st:St}(h:s.length<100000) :
 (AX E (k+4) 29 [.str s] st=.ret (.tuple [.str s,.str [],.bool false],st)/\splitOn 10 s=[s]) ∨
 ∃l r,AX E (k+4) 29 [.str s] st=.ret (.tuple [.str l,.str r,.bool true],st)/\splitOn 10 s=l::splitOn 10 r/\l.length+r.length+1=s.length:=by
 have hi:=ZQ (k:=k) (s:=s) (c:=10) (st:=st) (by omega)
 rcases SN 10 s 0 with⟨h1,h2⟩|⟨j,h1,h2,h3⟩
 ·left
  refine⟨?_,h2⟩
  rw[h1] at hi
  have e1:AX E (k+2) 104 [.str s,.str [10]] st=.ret (.tuple [.str s,.str [],.bool false],st):=by
   rw[Ai (fn:=C.f104) rfl rfl rfl,Af (by simp)]
   simp[C.f104,hi,leave,results,AR]
  have e2:AX E (k+3) 60 [.str s,.str [10]] st=.ret (.tuple [.str s,.str [],.bool false],st):=by
   rw[Ai (fn:=C.f60) rfl rfl rfl,Af (by simp)]
   simp[C.f60,e1,leave,results,AR]
  rw[Ai (fn:=C.f29) rfl rfl rfl,Af (by simp)]
  simp[C.f29,e2,leave,results,AR]
 ·right
  refine⟨s.take j,s.drop (j+1),?_,h3,by simp; omega⟩
  rw[Nat.zero_add] at h2
  rw[h2] at hi
  have s1:∀S,CJ false true [.str s,.int .i64 (j:Int)] S=some (.str (s.take j),S):=fun S=>LQ (by omega)
  have s2:∀S,CJ true false [.str s,.int .i64 ((j:Int)+1)] S=some (.str (s.drop (j+1)),S):=fun S=>IC (i:=j+1) (by omega)
  have hj0:(0:Int)<=(j:Int):=by omega
  have e1:AX E (k+2) 104 [.str s,.str [10]] st=.ret (.tuple [.str (s.take j),.str (s.drop (j+1)),.bool true],st):=by
   rw[Ai (fn:=C.f104) rfl rfl rfl,Af (by simp)]
   simp[C.f104,hi,s1,s2,hj0,wi j (by omega),leave,results,AR]
  have e2:AX E (k+3) 60 [.str s,.str [10]] st=.ret (.tuple [.str (s.take j),.str (s.drop (j+1)),.bool true],st):=by
   rw[Ai (fn:=C.f60) rfl rfl rfl,Af (by simp)]
   simp[C.f60,e1,leave,results,AR]
  rw[Ai (fn:=C.f29) rfl rfl rfl,Af (by simp)]
  simp[C.f29,e2,leave,results,AR]
theorem UJ {W:List BB}{r:Bf}(h:FO W=some r)(hl:W.length<=30000)(hm:∀x∈W,x.length<=30000):r.GA:=by
 by_cases hok:∃a R,W=a::[61]::R
 ·obtain⟨a,R,rfl⟩:=hok
  have ha:=hm a (by simp)
  have hR:∀x∈R,x.length<=30000:=fun x hx=>hm x (by simp[hx])
  have hRl:R.length<=30000:=by simp at hl; omega
  have plain:(⟨a,R,0⟩:Bf).GA:=⟨ha,hRl,hR,by show (-9223372036854775808:Int)<=0; omega,by show (0:Int)<9223372036854775808; omega⟩
  by_cases hs:2<=R.length/\R[R.length-2]? =some [47]
  ·rw[QG hs] at h
   cases hv:numOf (R.getLastD []) with
   |none=>rw[hv] at h; simp only[Io,Option.some.injEq] at h; subst h; exact plain
   |some v=>
    rw[hv] at h
    simp only[Io] at h
    split at h
    ·cases h
    ·simp only[Option.some.injEq] at h
     subst h
     exact⟨ha,by simp; omega,fun x hx=>hR x (List.mem_of_mem_take hx),Uc hv⟩
  ·rw[Rs hs] at h
   simp only[Option.some.injEq] at h; subst h; exact plain
 ·rw[QH hok] at h; cases h
theorem MM {n:Nat}{line:BB}{g g':Ak}(h:Bg n line g=some g')(hl:line.length<=20000)(hw:g.GA)(hr:g.rules.length<=25000):g'.GA/\g'.rules.length<=g.rules.length+1:=by
 have h1:=GY 32 line
 have h2:=Ja 32 line
 by_cases he:[]∈splitOn 32 line
 ·rw[Sr he] at h; cases h
 ·by_cases n0:n=0
  ·subst n0
   rw[aR he] at h
   split at h
   ·simp only[Option.some.injEq] at h
    subst h
    exact⟨⟨by simp; omega,fun s hs=>by have:=h2 s (List.mem_of_mem_tail hs); omega,hw.start,hw.many,hw.rules⟩,by simp⟩
   ·cases h
  ·by_cases n1:n=1
   ·subst n1
    rw[aQ he] at h
    unfold Lm at h
    split at h
    ·rename_i a b hab
     split at h
     ·simp only[Option.some.injEq] at h
      subst h
      have:=h2 b (by rw[hab]; simp)
      exact⟨⟨hw.kinds,hw.names,by show b.length<=30000; omega,hw.many,hw.rules⟩,by simp⟩
     ·cases h
    ·cases h
   ·rw[aP he (by omega)] at h
    cases hr':FO (splitOn 32 line) with
    |none=>rw[hr'] at h; cases h
    |some r=>
     rw[hr'] at h
     simp only[Option.map_some,Option.some.injEq] at h
     subst h
     have hrw:=UJ hr' (by omega) (fun x hx=>by have:=h2 x hx; omega)
     refine⟨⟨hw.kinds,hw.names,hw.start,by simp; omega,fun r' h'=>?_⟩,by simp⟩
     rcases List.mem_append.1 h' with h'|h'
     ·exact hw.rules r' h'
     ·rw[List.mem_singleton.1 h']; exact hrw
def CX:Ak:=⟨[],[],[]⟩
theorem Gf:CX.GA:=⟨by decide,by simp[CX],by decide,by decide,by simp[CX]⟩
theorem Ga {n:Nat}{g:Ak}{l:BB}:readAll n g [l]=if l=[] then .done n g else .bad n:=rfl
theorem Fq {n:Nat}{g:Ak}{l:BB}{P:List BB}(h:P≠[]):readAll n g (l::P)=match Bg n l g with
 |none=>.bad n
 |some g'=>readAll (n+1) g' P:=by
 cases P with
 |nil=>exact absurd rfl h
 |cons a P=>rfl
theorem Wj {n:Nat}{g:Ak}{l:BB}{P:List BB}(h:P≠[])(hs:Bg n l g=none):readAll n g (l::P)=.bad n:=by rw[Fq h,hs]
theorem Jb {n:Nat}{g g':Ak}{l:BB}{P:List BB}(h:P≠[])(hs:Bg n l g=some g'):readAll n g (l::P)=readAll (n+1) g' P:=by rw[Fq h,hs]
theorem Sy {k oo n:Nat}{g:Ak}{kv rv:AV}{ls:List AV}{S0 st:St}{line:BB}(H:RJ oo g kv rv ls S0 st)(hn2:n<1000000)(hl:line.length<100000)(hls:ls.length<=100000) :
 (AX E (k+5) 30 [.AO oo 0,.int .i64 (n:Int),.str line] st).to (dK oo n line g S0):=by
 rcases Nat.lt_or_ge n 2 with h|h
 ·exact UQ H h hl
 ·exact Wi H h hn2 hl hls
set_option maxHeartbeats 2000000 in
theorem Yy {k:Nat}{text:BB}(htx:text.length<=20000){S0:St}{kv0 rv0:AV}{ls0:List AV}(H0:RJ 1 CX kv0 rv0 ls0 S0 S0)(hz:AA S0.h 0=some (.cells 29 3 [.AB,.str [],.AB] false))(ts0:TS)(z2:ts0.get 2=.AO 0 0)(z5:ts0.get 5=.AO 1 0)(z6:ts0.get 6=.int .i64 ((0:Nat):Int))(z7:ts0.get 7=.str text) :
 (Dh (BF E (AX E (k+5)) C.f7L0) E.k ts0 S0).to fun x=>
  (x.1=.exit 0/\∃n g kv rv ls,readAll 0 CX (splitOn 10 text)=.done n g/\n<=20000/\Has x.2.1 [(2,.AO 0 0),(5,.AO 1 0),(6,.int .i64 (n:Int))]/\RJ 1 g kv rv ls S0 x.2.2/\g.GA) ∨
  (x.1=.ret/\∃n,readAll 0 CX (splitOn 10 text)=.bad n/\n<=20000/\Has x.2.1 [(2,.AO 0 0),(3,.int .i64 (n:Int)),(4,.int .i64 9)]/\AA x.2.2.h 0=some (.cells 29 3 [.AB,.str [],.AB] false)):=by
 refine DI (fun (n:Nat) ts st=>∃r g kv rv ls,n+r.length<=text.length/\Has ts [(2,.AO 0 0),(5,.AO 1 0),(6,.int .i64 (n:Int)),(7,.str r)]/\RJ 1 g kv rv ls S0 st/\g.GA/\g.rules.length<=n/\readAll n g (splitOn 10 r)=readAll 0 CX (splitOn 10 text))
  (fun n=>text.length-n) ?_ _ 0 _ _ ?_ ?_
 ·clear z2 z5 z6 z7
  rintro n ts ⟨h,c,lo⟩ ⟨r,g,kv,rv,ls,hnr,hts,H,hW,hrl,hq⟩
  simp only[KQ,MB,and_true] at hts
  obtain⟨z2,z5,z6,z7⟩:=hts
  have hlo:lo=0:=H.lo
  subst hlo
  have hcc:S0.c<=c:=H.c
  have hoc:1<S0.c:=H.oc
  have hz0:AA h 0=some (.cells 29 3 [.AB,.str [],.AB] false):=(H.fr 0 (by omega) (by omega)).trans hz
  have hbuild:BA [.AB,.str [],.AB] [] []=some [.AB,.str [],.AB]:=rfl
  have zst:∀{h':Heap} {c':Nat},AA h' 0=some (.cells 29 3 [.AB,.str [],.AB] false)->BJ 3 (.AO 0 0) (.agg [.AB,.str [],.AB]) ⟨h',c',0⟩=some (.undef,⟨Aa h' 0 (.cells 29 3 [.AB,.str [],.AB] false),c',0⟩)/\AA (Aa h' 0 (.cells 29 3 [.AB,.str [],.AB] false)) 0=some (.cells 29 3 [.AB,.str [],.AB] false):=fun hf=>by
   refine⟨?_,by rw[OE rfl,hf]; rfl⟩
   rw[Fs,hf,Db]; simp[AV.isTuple,AV.cells]
  by_cases hr0:r=[]
  ·subst hr0
   have hd:readAll 0 CX (splitOn 10 text)=.done n g:=by rw[← hq]; rfl
   simp[C.f7L0,z2,z5,z6,z7]
   exact⟨n,g,hd,by omega,rfl,⟨kv,rv,ls,H⟩,hW⟩
  ·have hr0':r.isEmpty=false:=by simpa using hr0
   rcases bC (k:=k+1) (s:=r) (st:=⟨h,c,0⟩) (by omega) with⟨h1,h2⟩|⟨l,r',h1,h2,h3⟩
   ·have hb:readAll 0 CX (splitOn 10 text)=.bad n:=by rw[← hq,h2,Ga,if_neg hr0]
    simp[C.f7L0,z2,z5,z6,z7,hr0',h1,Ap,Aj,CW,hbuild,(zst hz0).1]
    exact⟨n,hb,by omega,rfl,(zst (c':=c) hz0).2⟩
   ·have hP:=FU 10 r'
    rw[h2] at hq
    have hlr:=Sy (k:=k) (n:=n) (line:=l) (S0:=S0) H (by omega) (by omega) (by have:=H.rules.length; omega)
    simp[C.f7L0,z2,z5,z6,z7,hr0',h1,Ap,Aj,CW]
    refine M.BX hlr fun x hx=>?_
    obtain⟨v,⟨h3,c3,lo3⟩⟩:=x
    rcases hx with⟨e1,rfl,F⟩|⟨g',kv',rv',ls',e1,rfl,G⟩
    ·have hl3:lo3=0:=F.lo
     subst hl3
     have hz3:AA h3 0=some (.cells 29 3 [.AB,.str [],.AB] false):=(F.fr 0 (by omega) (by omega)).trans hz
     have hb:readAll 0 CX (splitOn 10 text)=.bad n:=by rw[← hq,Wj hP e1]
     simp[z2,z6,hbuild,(zst hz3).1]
     exact⟨n,hb,by omega,rfl,(zst (c':=c3) hz3).2⟩
    ·have hl3:lo3=0:=G.lo
     subst hl3
     obtain⟨hW',hrl'⟩:=MM e1 (by omega) hW (by omega)
     simp[z2,z5,z6,wi n (by omega)]
     exact⟨n+1,by omega,r',by omega,⟨by omega,rfl⟩,g',⟨kv',rv',ls',G⟩,hW',by omega,by rw[← Jb hP e1]; exact hq⟩
 ·show text.length-0<1000000; omega
 ·exact⟨text,CX,kv0,rv0,ls0,by omega,by simp[z2,z5,z6,z7],H0,Gf,by simp[CX],rfl⟩
theorem Ya {c:Nat}{h:Heap}{n:Nat}{cs cs':List AV}(ht:CU (Am.Cf c h n) cs=some cs')(hn:0<n):Am.Cf c h (n+1) (.tuple cs)=some (.tuple cs'):=by
 unfold Am.Cf
 cases ho:(AV.tuple cs).CF c with
 |true=>
  have:=Pw (by simpa [AV.CF] using ho) ht hn
  rw[this]; rfl
 |false=>simp[ht]
def BU (t:BB):Ak × Nat × Int:=
 if 20000<t.length then (CX,0,2) else match readAll 0 CX (splitOn 10 t) with
  |.bad n=>(CX,n,9)
  |.done n g=>if n<2 then (CX,n,9) else if g.Ca=0 then (g,0,0) else (CX,0,g.Ca)
def Tp (t:BB)(v:AV):Prop:=∃u,v=.tuple [u,.int .i64 ((BU t).2.1:Int),.int .i64 (BU t).2.2]/\Bl u (BU t).1
theorem ZH:Bl (.agg [.AB,.str [],.AB]) CX:=⟨.AB,.AB,[],rfl,⟨.inl ⟨rfl,rfl⟩⟩,⟨.inl ⟨rfl,rfl⟩⟩,.nil⟩
set_option maxHeartbeats 2000000 in
theorem Nf {k:Nat}{t:BB}{st:St}(hl:t.length<1000000):∃v,AX E (k+7) 7 [.str t] st=.ret (v,st)/\Tp t v:=by
 rw[DK (fn:=C.f7) rfl rfl rfl (by rfl),Af (by simp)]
 have goal:((BF E (AX E (k+6)) C.f7.body (TS.Cm [.str t] 0 .nil) ⟨[],0,0⟩).bind (leave C.f7.results)).to fun r=>∃v,Am.Cf 0 r.2.h 64 r.1=some v/\Tp t v:=by
  have hbuild:BA [.AB,.str [],.AB] [] []=some [.AB,.str [],.AB]:=rfl
  obtain⟨h0,hh0⟩:∃h:Heap,h=[(0,Al.cells 29 3 [.AB,.str [],.AB] false)]:=⟨_,rfl⟩
  have n0:newObj 0 (.cells 29 3 [.AB,.str [],.AB] false) ⟨[],1,0⟩=some ⟨h0,1,0⟩:=by rw[hh0]; rfl
  have f0:AA h0 0=some (.cells 29 3 [.AB,.str [],.AB] false):=by rw[hh0]; rfl
  have zst:∀{h':Heap} {c':Nat} {a b d a' b' d':AV},AA h' 0=some (.cells 29 3 [a',b',d'] false)->BJ 3 (.AO 0 0) (.agg [a,b,d]) ⟨h',c',0⟩=some (.undef,⟨Aa h' 0 (.cells 29 3 [a,b,d] false),c',0⟩)/\Ac (Aa h' 0 (.cells 29 3 [a,b,d] false)) (.AO 0 0) 3=some [a,b,d]:=fun {h' c' a b d a' b' d'} hf=>by
   refine⟨?_,by rw[DN,OE rfl,hf]; simp⟩
   rw[Fs,hf,Db]; simp[AV.isTuple,AV.cells]
  have zero:∀(h':Heap) (n:Nat) (e:Int),(BU t=(CX,n,e))->∃v,Am.Cf 0 h' 64 (.tuple [.agg [.AB,.str [],.AB],.int .i64 (n:Int),.int .i64 e])=some v/\Tp t v:=fun h' n e he=>⟨_,Dv (n:=63) rfl,_,by rw[he],by rw[he]; exact ZH⟩
  by_cases hbig:20000<t.length
  ·have hbig':(20000:Int)<(t.length:Int):=by omega
   have hrt:BU t=(CX,0,2):=by unfold BU; rw[if_pos hbig]
   have:=zst (c':=1) (a:=.AB) (b:=.str []) (d:=.AB) f0
   simp[C.f7,n0,hbig',hbuild,this.1,this.2,leave,results,AR]
   exact zero _ 0 2 hrt
  ·have hbig':¬(20000:Int)<(t.length:Int):=by omega
   obtain⟨h1,hh1⟩:∃h:Heap,h=(1,Al.cells 29 3 [.AB,.str [],.AB] false)::h0:=⟨_,rfl⟩
   have tp0:top h0<=1:=by rw[hh0]; simp[top]
   have n1:newObj 1 (.cells 29 3 [.AB,.str [],.AB] false) ⟨h0,2,0⟩=some ⟨h1,2,0⟩:=by rw[hh1]; exact BP tp0
   have H0:RJ 1 CX .AB .AB [] ⟨h1,2,0⟩ ⟨h1,2,0⟩:=⟨by show AA h1 1=_; rw[hh1,Bv rfl]; rfl,⟨.inl ⟨rfl,rfl⟩⟩,.nil,.inl ⟨rfl,rfl⟩,fun p hp=>(by cases hp),Nat.le_refl _,rfl,by show top h1<=2; rw[hh1,BD]; omega,by show 1<2; omega,fun p _ _=>rfl⟩
   have f1:AA h1 0=some (.cells 29 3 [.AB,.str [],.AB] false):=by rw[hh1,Bb (by omega)]; exact f0
   have loop:=fun ts0 a b c d=>Yy (k:=k+1) (text:=t) (by omega) (S0:=⟨h1,2,0⟩) H0 f1 ts0 a b c d
   simp[C.f7,n0,hbig',n1,-M.bind_assoc]
   simp only[M.bind_assoc]
   refine M.BX (loop _ (by simp) (by simp) (by simp) (by simp)) fun x hx=>?_
   obtain⟨e,ts1,⟨h2,c2,lo2⟩⟩:=x
   rcases hx with⟨rfl,n,g,kv,rv,ls,hd,hn,hts,G,hW⟩|⟨rfl,n,hd,hn,hts,hf2⟩
   ·simp only[KQ,MB,and_true] at hts
    obtain⟨z2,z5,z6⟩:=hts
    have hl2:lo2=0:=G.lo
    subst hl2
    have hf2:AA h2 0=some (.cells 29 3 [.AB,.str [],.AB] false):=(G.fr 0 (by show 0<2; omega) (by omega)).trans f1
    have hat:AA h2 1=some (.cells 29 3 [kv,.str g.start,rv] false):=G.at_
    have r1:Ac h2 (.AO 1 0) 3=some [kv,.str g.start,rv]:=by rw[DN,hat]; simp
    have s0:=zst (c':=c2) (a:=.AB) (b:=.str []) (d:=.AB) hf2
    by_cases hn2:n<2
    ·have hn2':(n:Int)<2:=by omega
     have hrt:BU t=(CX,n,9):=by unfold BU; rw[if_neg hbig,hd]; simp only[hn2,if_true]
     simp[z2,z5,z6,hn2',hbuild,s0.1,s0.2,leave,results,AR]
     exact zero _ n 9 hrt
    ·have hn2':¬(n:Int)<2:=by omega
     obtain⟨u,hu,hth⟩:=G.Cf
     have hck:=YK (k:=k) (st:=⟨h2,c2,0⟩) (hth (fun _ _=>rfl) 64 (by omega)) hu hW
     by_cases hz:g.Ca=0
     ·have hrt:BU t=(g,0,0):=by unfold BU; rw[if_neg hbig,hd]; simp only[hn2,hz,if_true,if_false]
      rw[hz] at hck
      have s1:=zst (c':=c2) (a:=kv) (b:=.str g.start) (d:=rv) hf2
      simp[z2,z5,z6,hn2',r1,hck,s1.1,s1.2,leave,results,AR]
      refine⟨.tuple [u,.int .i64 0,.int .i64 0],?_,u,by rw[hrt]; rfl,by rw[hrt]; exact hu⟩
      have:=hth (h':=Aa h2 0 (.cells 29 3 [kv,.str g.start,rv] false)) (fun p hp=>Jh (by have:=(G.own p hp).1; have:2<=p:=this; omega)) 63 (by omega)
      exact Ya (by simp[CU,this,Dv (show (AV.int .i64 0).CF 0=true from rfl)]) (by omega)
     ·have hz':(g.Ca==0)=false:=by simpa using hz
      have hz'':(g.Ca !=0)=true:=by simpa using hz
      have hrt:BU t=(CX,0,g.Ca):=by unfold BU; rw[if_neg hbig,hd]; simp only[hn2,hz,if_false]
      simp[z2,z5,z6,hn2',r1,hck,hz',hz'',hbuild,s0.1,s0.2,leave,results,AR]
      exact zero _ 0 g.Ca hrt
   ·simp only[KQ,MB,and_true] at hts
    obtain⟨z2,z3,z4⟩:=hts
    have hrt:BU t=(CX,n,9):=by unfold BU; rw[if_neg hbig,hd]
    have rr:Ac h2 (.AO 0 0) 3=some [.AB,.str [],.AB]:=by
     have hf2:AA h2 0=some (.cells 29 3 [.AB,.str [],.AB] false):=hf2
     rw[DN,hf2]; simp
    simp[z2,z3,z4,rr,leave,results,AR]
    exact zero _ n 9 hrt
 obtain⟨⟨w,st'⟩,h1,v,h2,h3⟩:=goal
 refine⟨v,?_,h3⟩
 rw[h1]
 simp only[M.KC,Bn,CV,h2]
theorem M.Tj {α β:Type}{m:M α}{f:α->M β}{R:α->Prop}{S:β->Prop}(h:m.all R)(k:∀a,R a->(f a).all S):(m.bind f).all S:=M.Oh.2 (M.Dt h k)
theorem NM:∀(P:List BB) (n:Nat) (g:Ak),(∀x∈P,x.length<=20000)->g.GA->g.rules.length+P.length<=25000->∀k g',readAll n g P=.done k g'->g'.GA
 |[],n,g,_,_,_,k,g',h=>by cases h
 |[l],n,g,_,hw,_,k,g',h=>by
  rw[Ga] at h
  split at h
  ·injection h with _ e; subst e; exact hw
  ·cases h
 |l::l2::P,n,g,hl,hw,hr,k,g',h=>by
  rw[Fq (by simp)] at h
  cases hs:Bg n l g with
  |none=>rw[hs] at h; cases h
  |some g1=>
   rw[hs] at h
   simp only[List.length_cons] at hr
   obtain⟨w1,w2⟩:=MM hs (hl l (by simp)) hw (by omega)
   exact NM (l2::P) (n+1) g1 (fun x hx=>hl x (List.mem_cons_of_mem _ hx)) w1 (by simp only[List.length_cons]; omega) k g' h
theorem RO (t:BB):(BU t).1.GA:=by
 unfold BU
 split
 ·exact Gf
 ·rename_i hl
  have h1:=GY 10 t
  have h2:=Ja 10 t
  cases hd:readAll 0 CX (splitOn 10 t) with
  |bad n=>exact Gf
  |done n g=>
   have hw:=NM (splitOn 10 t) 0 CX (fun x hx=>by have:=h2 x hx; omega) Gf (by simp[CX]; omega) n g hd
   simp only
   split
   ·exact Gf
   ·split
    ·exact hw
    ·exact Gf
end Go.Am
