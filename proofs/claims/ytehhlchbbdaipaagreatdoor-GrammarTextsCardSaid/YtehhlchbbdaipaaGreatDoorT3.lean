/- A part of the proof of grammarTexts (merged by a program). -/
import Derived.Test.YtehhlchbbdaipaaGreatDoorT2
namespace Go.Am
open Go
theorem Rf (c:UInt8):∀(s:Ay) (i:Nat),(index.go [c] s i=-1/\splitOn c s=[s])∨∃j,j<s.length/\index.go [c] s i=((i+j:Nat):Int)/\splitOn c s=s.take j::splitOn c (s.drop (j+1))
 |[],i=>by left; exact⟨rfl,rfl⟩
 |b::s,i=>by
  rw[KQ]
  by_cases h:b=c
  ·subst h
   right
   exact⟨0,by simp,by simp[index.go],by simp⟩
  ·have hp:([c]:Ay).isPrefixOf (b::s)=false:=by simp[List.isPrefixOf,Ne.symm h]
   have e:index.go [c] (b::s) i=index.go [c] s (i+1):=by rw[index.go,hp]; simp
   rw[e,if_neg h]
   rcases Rf c s (i+1) with⟨h1,h2⟩|⟨j,h1,h2,h3⟩
   ·left; exact⟨h1,by rw[h2]; rfl⟩
   ·right; exact⟨j+1,by simp; omega,by rw[h2]; congr 1; omega,by rw[h3]; simp⟩
theorem Ya {k:Nat}{s:Ay}{c:UInt8}{st:St}(h:s.length<=1000000):AR E (k+1) 255 [.str s,.str [c]] st=.ret (.int .i64 (index.go [c] s 0),st):=by
 refine JK (g:=fun _=>hIndex) rfl ?_
 simp[hIndex,ble_eq,h,index]
theorem Zo {k:Nat}{s:Ay}{st:St}(h:s.length<100000) :
 (AR E (k+4) 108 [.str s] st=.ret (.tuple [.str s,.str [],.bool false],st)/\splitOn 10 s=[s]) ∨
 ∃l r,AR E (k+4) 108 [.str s] st=.ret (.tuple [.str l,.str r,.bool true],st)/\splitOn 10 s=l::splitOn 10 r/\l.length+r.length+1=s.length:=by
 have hi:=Ya (k:=k) (s:=s) (c:=10) (st:=st) (by omega)
 rcases Rf 10 s 0 with⟨h1,h2⟩|⟨j,h1,h2,h3⟩
 ·left
  refine⟨?_,h2⟩
  rw[h1] at hi
  have e1:AR E (k+2) 215 [.str s,.str [10]] st=.ret (.tuple [.str s,.str [],.bool false],st):=by
   rw[Af (fn:=C.f215) rfl rfl rfl,Ab (by simp)]
   simp[C.f215,hi,leave,results,AP]
  have e2:AR E (k+3) 164 [.str s,.str [10]] st=.ret (.tuple [.str s,.str [],.bool false],st):=by
   rw[Af (fn:=C.f164) rfl rfl rfl,Ab (by simp)]
   simp[C.f164,e1,leave,results,AP]
  rw[Af (fn:=C.f108) rfl rfl rfl,Ab (by simp)]
  simp[C.f108,e2,leave,results,AP]
 ·right
  refine⟨s.take j,s.drop (j+1),?_,h3,by simp; omega⟩
  rw[Nat.zero_add] at h2
  rw[h2] at hi
  have s1:∀S,Bp false true [.str s,.int .i64 (j:Int)] S=some (.str (s.take j),S):=fun S=>Kv (by omega)
  have s2:∀S,Bp true false [.str s,.int .i64 ((j:Int)+1)] S=some (.str (s.drop (j+1)),S):=fun S=>GA (i:=j+1) (by omega)
  have hj0:(0:Int)<=(j:Int):=by omega
  have e1:AR E (k+2) 215 [.str s,.str [10]] st=.ret (.tuple [.str (s.take j),.str (s.drop (j+1)),.bool true],st):=by
   rw[Af (fn:=C.f215) rfl rfl rfl,Ab (by simp)]
   simp[C.f215,hi,s1,s2,hj0,wi j (by omega),leave,results,AP]
  have e2:AR E (k+3) 164 [.str s,.str [10]] st=.ret (.tuple [.str (s.take j),.str (s.drop (j+1)),.bool true],st):=by
   rw[Af (fn:=C.f164) rfl rfl rfl,Ab (by simp)]
   simp[C.f164,e1,leave,results,AP]
  rw[Af (fn:=C.f108) rfl rfl rfl,Ab (by simp)]
  simp[C.f108,e2,leave,results,AP]
theorem Td {W:List Ay}{r:Bw}(h:Dt W=some r)(hl:W.length<=30000)(hm:∀x∈W,x.length<=30000):r.FP:=by
 by_cases hok:∃a R,W=a::[61]::R
 ·obtain⟨a,R,rfl⟩:=hok
  have ha:=hm a (by simp)
  have hR:∀x∈R,x.length<=30000:=fun x hx=>hm x (by simp[hx])
  have hRl:R.length<=30000:=by simp at hl; omega
  have plain:(⟨a,R,0⟩:Bw).FP:=⟨ha,hRl,hR,by show (-9223372036854775808:Int)<=0; omega,by show (0:Int)<9223372036854775808; omega⟩
  by_cases hs:2<=R.length/\R[R.length-2]? =some [47]
  ·rw[MN hs] at h
   cases hv:numOf (R.getLastD []) with
   |none=>rw[hv] at h; simp only[IA,Option.some.injEq] at h; subst h; exact plain
   |some v=>
    rw[hv] at h
    simp only[IA] at h
    split at h
    ·cases h
    ·simp only[Option.some.injEq] at h
     subst h
     exact⟨ha,by simp; omega,fun x hx=>hR x (List.mem_of_mem_take hx),TE hv⟩
  ·rw[Nr hs] at h
   simp only[Option.some.injEq] at h; subst h; exact plain
 ·rw[MO hok] at h; cases h
theorem Jb {n:Nat}{line:Ay}{g g':Aj}(h:Cg n line g=some g')(hl:line.length<=20000)(hw:g.FP)(hr:g.rules.length<=25000):g'.FP/\g'.rules.length<=g.rules.length+1:=by
 have h1:=DF 32 line
 have h2:=GX 32 line
 by_cases he:[]∈splitOn 32 line
 ·rw[PM he] at h; cases h
 ·by_cases n0:n=0
  ·subst n0
   rw[Vi he] at h
   split at h
   ·simp only[Option.some.injEq] at h
    subst h
    exact⟨⟨by simp; omega,fun s hs=>by have:=h2 s (List.mem_of_mem_tail hs); omega,hw.start,hw.many,hw.rules⟩,by simp⟩
   ·cases h
  ·by_cases n1:n=1
   ·subst n1
    rw[Vh he] at h
    unfold LW at h
    split at h
    ·rename_i a b hab
     split at h
     ·simp only[Option.some.injEq] at h
      subst h
      have:=h2 b (by rw[hab]; simp)
      exact⟨⟨hw.kinds,hw.names,by show b.length<=30000; omega,hw.many,hw.rules⟩,by simp⟩
     ·cases h
    ·cases h
   ·rw[Vg he (by omega)] at h
    cases hr':Dt (splitOn 32 line) with
    |none=>rw[hr'] at h; cases h
    |some r=>
     rw[hr'] at h
     simp only[Option.map_some,Option.some.injEq] at h
     subst h
     have hrw:=Td hr' (by omega) (fun x hx=>by have:=h2 x hx; omega)
     refine⟨⟨hw.kinds,hw.names,hw.start,by simp; omega,fun r' h'=>?_⟩,by simp⟩
     rcases List.mem_append.1 h' with h'|h'
     ·exact hw.rules r' h'
     ·rw[List.mem_singleton.1 h']; exact hrw
def Bb:Aj:=⟨[],[],[]⟩
theorem FT:Bb.FP:=⟨by decide,by simp[Bb],by decide,by decide,by simp[Bb]⟩
theorem Ky {n:Nat}{g:Aj}{l:Ay}:readAll n g [l]=if l=[] then .done n g else .bad n:=rfl
theorem KV {n:Nat}{g:Aj}{l:Ay}{P:List Ay}(h:P≠[]):readAll n g (l::P)=match Cg n l g with
 |none=>.bad n
 |some g'=>readAll (n+1) g' P:=by
 cases P with
 |nil=>exact absurd rfl h
 |cons a P=>rfl
theorem Ps {n:Nat}{g:Aj}{l:Ay}{P:List Ay}(h:P≠[])(hs:Cg n l g=none):readAll n g (l::P)=.bad n:=by rw[KV h,hs]
theorem OX {n:Nat}{g g':Aj}{l:Ay}{P:List Ay}(h:P≠[])(hs:Cg n l g=some g'):readAll n g (l::P)=readAll (n+1) g' P:=by rw[KV h,hs]
theorem SF {k oo n:Nat}{g:Aj}{kv rv:AV}{ls:List AV}{S0 st:St}{line:Ay}(H:Mi oo g kv rv ls S0 st)(hn2:n<1000000)(hl:line.length<100000)(hls:ls.length<=100000) :
 (AR E (k+5) 109 [.AO oo 0,.int .i64 (n:Int),.str line] st).to (ak oo n line g S0):=by
 rcases Nat.lt_or_ge n 2 with h|h
 ·exact Tn H h hl
 ·exact Vr H h hn2 hl hls
set_option maxHeartbeats 2000000 in
theorem YL {k:Nat}{text:Ay}(htx:text.length<=20000){S0:St}{kv0 rv0:AV}{ls0:List AV}(H0:Mi 1 Bb kv0 rv0 ls0 S0 S0)(hz:AA S0.h 0=some (.cells 29 3 [.AB,.str [],.AB] false))(ts0:TS)(z2:ts0.get 2=.AO 0 0)(z5:ts0.get 5=.AO 1 0)(z6:ts0.get 6=.int .i64 ((0:Nat):Int))(z7:ts0.get 7=.str text) :
 (DN (BB E (AR E (k+5)) C.f38L0) E.k ts0 S0).to fun x=>
  (x.1=.exit 0/\∃n g kv rv ls,readAll 0 Bb (splitOn 10 text)=.done n g/\n<=20000/\Has x.2.1 [(2,.AO 0 0),(5,.AO 1 0),(6,.int .i64 (n:Int))]/\Mi 1 g kv rv ls S0 x.2.2/\g.FP) ∨
  (x.1=.ret/\∃n,readAll 0 Bb (splitOn 10 text)=.bad n/\n<=20000/\Has x.2.1 [(2,.AO 0 0),(3,.int .i64 (n:Int)),(4,.int .i64 9)]/\AA x.2.2.h 0=some (.cells 29 3 [.AB,.str [],.AB] false)):=by
 refine Ct (fun (n:Nat) ts st=>∃r g kv rv ls,n+r.length<=text.length/\Has ts [(2,.AO 0 0),(5,.AO 1 0),(6,.int .i64 (n:Int)),(7,.str r)]/\Mi 1 g kv rv ls S0 st/\g.FP/\g.rules.length<=n/\readAll n g (splitOn 10 r)=readAll 0 Bb (splitOn 10 text))
  (fun n=>text.length-n) ?_ _ 0 _ _ ?_ ?_
 ·clear z2 z5 z6 z7
  rintro n ts ⟨h,c,lo⟩ ⟨r,g,kv,rv,ls,hnr,hts,H,hW,hrl,hq⟩
  simp only[Gs,IY,and_true] at hts
  obtain⟨z2,z5,z6,z7⟩:=hts
  have hlo:lo=0:=H.lo
  subst hlo
  have hcc:S0.c<=c:=H.c
  have hoc:1<S0.c:=H.oc
  have hz0:AA h 0=some (.cells 29 3 [.AB,.str [],.AB] false):=(H.fr 0 (by omega) (by omega)).trans hz
  have hbuild:Au [.AB,.str [],.AB] [] []=some [.AB,.str [],.AB]:=rfl
  have zst:∀{h':Heap} {c':Nat},AA h' 0=some (.cells 29 3 [.AB,.str [],.AB] false)->BH 3 (.AO 0 0) (.agg [.AB,.str [],.AB]) ⟨h',c',0⟩=some (.undef,⟨Aa h' 0 (.cells 29 3 [.AB,.str [],.AB] false),c',0⟩)/\AA (Aa h' 0 (.cells 29 3 [.AB,.str [],.AB] false)) 0=some (.cells 29 3 [.AB,.str [],.AB] false):=fun hf=>by
   refine⟨?_,by rw[Ki rfl,hf]; rfl⟩
   rw[Ci,hf,CB]; simp[AV.isTuple,AV.cells]
  by_cases hr0:r=[]
  ·subst hr0
   have hd:readAll 0 Bb (splitOn 10 text)=.done n g:=by rw[← hq]; rfl
   simp[C.f38L0,z2,z5,z6,z7]
   exact⟨n,g,hd,by omega,rfl,⟨kv,rv,ls,H⟩,hW⟩
  ·have hr0':r.isEmpty=false:=by simpa using hr0
   rcases Zo (k:=k+1) (s:=r) (st:=⟨h,c,0⟩) (by omega) with⟨h1,h2⟩|⟨l,r',h1,h2,h3⟩
   ·have hb:readAll 0 Bb (splitOn 10 text)=.bad n:=by rw[← hq,h2,Ky,if_neg hr0]
    simp[C.f38L0,z2,z5,z6,z7,hr0',h1,Ag,AZ,BG,hbuild,(zst hz0).1]
    exact⟨n,hb,by omega,rfl,(zst (c':=c) hz0).2⟩
   ·have hP:=Dq 10 r'
    rw[h2] at hq
    have hlr:=SF (k:=k) (n:=n) (line:=l) (S0:=S0) H (by omega) (by omega) (by have:=H.rules.length; omega)
    simp[C.f38L0,z2,z5,z6,z7,hr0',h1,Ag,AZ,BG]
    refine M.BN hlr fun x hx=>?_
    obtain⟨v,⟨h3,c3,lo3⟩⟩:=x
    rcases hx with⟨e1,rfl,F⟩|⟨g',kv',rv',ls',e1,rfl,G⟩
    ·have hl3:lo3=0:=F.lo
     subst hl3
     have hz3:AA h3 0=some (.cells 29 3 [.AB,.str [],.AB] false):=(F.fr 0 (by omega) (by omega)).trans hz
     have hb:readAll 0 Bb (splitOn 10 text)=.bad n:=by rw[← hq,Ps hP e1]
     simp[z2,z6,hbuild,(zst hz3).1]
     exact⟨n,hb,by omega,rfl,(zst (c':=c3) hz3).2⟩
    ·have hl3:lo3=0:=G.lo
     subst hl3
     obtain⟨hW',hrl'⟩:=Jb e1 (by omega) hW (by omega)
     simp[z2,z5,z6,wi n (by omega)]
     exact⟨n+1,by omega,r',by omega,⟨by omega,rfl⟩,g',⟨kv',rv',ls',G⟩,hW',by omega,by rw[← OX hP e1]; exact hq⟩
 ·show text.length-0<1000000; omega
 ·exact⟨text,Bb,kv0,rv0,ls0,by omega,by simp[z2,z5,z6,z7],H0,FT,by simp[Bb],rfl⟩
theorem RI {c:Nat}{h:Heap}{n:Nat}{cs cs':List AV}(ht:CO (Am.CZ c h n) cs=some cs')(hn:0<n):Am.CZ c h (n+1) (.tuple cs)=some (.tuple cs'):=by
 unfold Am.CZ
 cases ho:(AV.tuple cs).Bt c with
 |true=>
  have:=Pb (by simpa [AV.Bt] using ho) ht hn
  rw[this]; rfl
 |false=>simp[ht]
def BJ (t:Ay):Aj × Nat × Int:=
 if 20000<t.length then (Bb,0,2) else match readAll 0 Bb (splitOn 10 t) with
  |.bad n=>(Bb,n,9)
  |.done n g=>if n<2 then (Bb,n,9) else if g.Cb=0 then (g,0,0) else (Bb,0,g.Cb)
def Lj (t:Ay)(v:AV):Prop:=∃u,v=.tuple [u,.int .i64 ((BJ t).2.1:Int),.int .i64 (BJ t).2.2]/\Bo u (BJ t).1
theorem RO:Bo (.agg [.AB,.str [],.AB]) Bb:=⟨.AB,.AB,[],rfl,⟨.inl ⟨rfl,rfl⟩⟩,⟨.inl ⟨rfl,rfl⟩⟩,.nil⟩
set_option maxHeartbeats 2000000 in
theorem Sb {k:Nat}{t:Ay}{st:St}(hl:t.length<1000000):∃v,AR E (k+7) 38 [.str t] st=.ret (v,st)/\Lj t v:=by
 rw[Ca (fn:=C.f38) rfl rfl rfl (by rfl),Ab (by simp)]
 have goal:((BB E (AR E (k+6)) C.f38.body (TS.Cy [.str t] 0 .nil) ⟨[],0,0⟩).bind (leave C.f38.results)).to fun r=>∃v,Am.CZ 0 r.2.h 64 r.1=some v/\Lj t v:=by
  have hbuild:Au [.AB,.str [],.AB] [] []=some [.AB,.str [],.AB]:=rfl
  obtain⟨h0,hh0⟩:∃h:Heap,h=[(0,Ai.cells 29 3 [.AB,.str [],.AB] false)]:=⟨_,rfl⟩
  have n0:newObj 0 (.cells 29 3 [.AB,.str [],.AB] false) ⟨[],1,0⟩=some ⟨h0,1,0⟩:=by rw[hh0]; rfl
  have f0:AA h0 0=some (.cells 29 3 [.AB,.str [],.AB] false):=by rw[hh0]; rfl
  have zst:∀{h':Heap} {c':Nat} {a b d a' b' d':AV},AA h' 0=some (.cells 29 3 [a',b',d'] false)->BH 3 (.AO 0 0) (.agg [a,b,d]) ⟨h',c',0⟩=some (.undef,⟨Aa h' 0 (.cells 29 3 [a,b,d] false),c',0⟩)/\Ac (Aa h' 0 (.cells 29 3 [a,b,d] false)) (.AO 0 0) 3=some [a,b,d]:=fun {h' c' a b d a' b' d'} hf=>by
   refine⟨?_,by rw[CR,Ki rfl,hf]; simp⟩
   rw[Ci,hf,CB]; simp[AV.isTuple,AV.cells]
  have zero:∀(h':Heap) (n:Nat) (e:Int),(BJ t=(Bb,n,e))->∃v,Am.CZ 0 h' 64 (.tuple [.agg [.AB,.str [],.AB],.int .i64 (n:Int),.int .i64 e])=some v/\Lj t v:=fun h' n e he=>⟨_,DU (n:=63) rfl,_,by rw[he],by rw[he]; exact RO⟩
  by_cases hbig:20000<t.length
  ·have hbig':(20000:Int)<(t.length:Int):=by omega
   have hrt:BJ t=(Bb,0,2):=by unfold BJ; rw[if_pos hbig]
   have:=zst (c':=1) (a:=.AB) (b:=.str []) (d:=.AB) f0
   simp[C.f38,n0,hbig',hbuild,this.1,this.2,leave,results,AP]
   exact zero _ 0 2 hrt
  ·have hbig':¬(20000:Int)<(t.length:Int):=by omega
   obtain⟨h1,hh1⟩:∃h:Heap,h=(1,Ai.cells 29 3 [.AB,.str [],.AB] false)::h0:=⟨_,rfl⟩
   have tp0:top h0<=1:=by rw[hh0]; simp[top]
   have n1:newObj 1 (.cells 29 3 [.AB,.str [],.AB] false) ⟨h0,2,0⟩=some ⟨h1,2,0⟩:=by rw[hh1]; exact BC tp0
   have H0:Mi 1 Bb .AB .AB [] ⟨h1,2,0⟩ ⟨h1,2,0⟩:=⟨by show AA h1 1=_; rw[hh1,BZ rfl]; rfl,⟨.inl ⟨rfl,rfl⟩⟩,.nil,.inl ⟨rfl,rfl⟩,fun p hp=>(by cases hp),Nat.le_refl _,rfl,by show top h1<=2; rw[hh1,Av]; omega,by show 1<2; omega,fun p _ _=>rfl⟩
   have f1:AA h1 0=some (.cells 29 3 [.AB,.str [],.AB] false):=by rw[hh1,BP (by omega)]; exact f0
   have loop:=fun ts0 a b c d=>YL (k:=k+1) (text:=t) (by omega) (S0:=⟨h1,2,0⟩) H0 f1 ts0 a b c d
   simp[C.f38,n0,hbig',n1,-M.bind_assoc]
   simp only[M.bind_assoc]
   refine M.BN (loop _ (by simp) (by simp) (by simp) (by simp)) fun x hx=>?_
   obtain⟨e,ts1,⟨h2,c2,lo2⟩⟩:=x
   rcases hx with⟨rfl,n,g,kv,rv,ls,hd,hn,hts,G,hW⟩|⟨rfl,n,hd,hn,hts,hf2⟩
   ·simp only[Gs,IY,and_true] at hts
    obtain⟨z2,z5,z6⟩:=hts
    have hl2:lo2=0:=G.lo
    subst hl2
    have hf2:AA h2 0=some (.cells 29 3 [.AB,.str [],.AB] false):=(G.fr 0 (by show 0<2; omega) (by omega)).trans f1
    have hat:AA h2 1=some (.cells 29 3 [kv,.str g.start,rv] false):=G.at_
    have r1:Ac h2 (.AO 1 0) 3=some [kv,.str g.start,rv]:=by rw[CR,hat]; simp
    have s0:=zst (c':=c2) (a:=.AB) (b:=.str []) (d:=.AB) hf2
    by_cases hn2:n<2
    ·have hn2':(n:Int)<2:=by omega
     have hrt:BJ t=(Bb,n,9):=by unfold BJ; rw[if_neg hbig,hd]; simp only[hn2,if_true]
     simp[z2,z5,z6,hn2',hbuild,s0.1,s0.2,leave,results,AP]
     exact zero _ n 9 hrt
    ·have hn2':¬(n:Int)<2:=by omega
     obtain⟨u,hu,hth⟩:=G.CZ
     have hck:=XW (k:=k) (st:=⟨h2,c2,0⟩) (hth (fun _ _=>rfl) 64 (by omega)) hu hW
     by_cases hz:g.Cb=0
     ·have hrt:BJ t=(g,0,0):=by unfold BJ; rw[if_neg hbig,hd]; simp only[hn2,hz,if_true,if_false]
      rw[hz] at hck
      have s1:=zst (c':=c2) (a:=kv) (b:=.str g.start) (d:=rv) hf2
      simp[z2,z5,z6,hn2',r1,hck,s1.1,s1.2,leave,results,AP]
      refine⟨.tuple [u,.int .i64 0,.int .i64 0],?_,u,by rw[hrt]; rfl,by rw[hrt]; exact hu⟩
      have:=hth (h':=Aa h2 0 (.cells 29 3 [kv,.str g.start,rv] false)) (fun p hp=>HZ (by have:=(G.own p hp).1; have:2<=p:=this; omega)) 63 (by omega)
      exact RI (by simp[CO,this,DU (show (AV.int .i64 0).Bt 0=true from rfl)]) (by omega)
     ·have hz':(g.Cb==0)=false:=by simpa using hz
      have hz'':(g.Cb !=0)=true:=by simpa using hz
      have hrt:BJ t=(Bb,0,g.Cb):=by unfold BJ; rw[if_neg hbig,hd]; simp only[hn2,hz,if_false]
      simp[z2,z5,z6,hn2',r1,hck,hz',hz'',hbuild,s0.1,s0.2,leave,results,AP]
      exact zero _ 0 g.Cb hrt
   ·simp only[Gs,IY,and_true] at hts
    obtain⟨z2,z3,z4⟩:=hts
    have hrt:BJ t=(Bb,n,9):=by unfold BJ; rw[if_neg hbig,hd]
    have rr:Ac h2 (.AO 0 0) 3=some [.AB,.str [],.AB]:=by
     have hf2:AA h2 0=some (.cells 29 3 [.AB,.str [],.AB] false):=hf2
     rw[CR,hf2]; simp
    simp[z2,z3,z4,rr,leave,results,AP]
    exact zero _ n 9 hrt
 obtain⟨⟨w,st'⟩,h1,v,h2,h3⟩:=goal
 refine⟨v,?_,h3⟩
 rw[h1]
 simp only[M.Iy,Bd,CJ,h2]
theorem YU {k:Nat}{t:Ay}{st:St}(h:t.length<100000):∃L o,AR E (k+3) 110 [.str t] st=.ret (.tuple [.list false 1 (strs L),.int .i64 o],st) /\
 ((L=splitOn 10 t/\o=(((splitOn 10 t).length-1:Nat):Int)/\(splitOn 10 t)[(splitOn 10 t).length-1]?≠some [])∨(L++[[]]=splitOn 10 t/\o=-1)):=by
 obtain⟨P,hP⟩:∃P,P=splitOn 10 t:=⟨_,rfl⟩
 have hne:P≠[]:=hP ▸ Dq 10 t
 have hlen:P.length<=t.length+1:=hP ▸ DF 10 t
 have hs:=Np (k:=k+1) (c:=10) (s:=t) (st:={ st with lo:=st.c }) (by omega)
 rw[← hP] at hs
 obtain⟨m,hm⟩:∃m,P.length=m+1:=⟨P.length-1,by cases P with|nil=>exact absurd rfl hne|cons a l=>simp⟩
 have hle:∀S,BX .slice (.list false 1 (strs P)) S=some (.int .i64 ((m:Int)+1),S):=fun S=>by rw[Jq,hm]; rfl
 have hw:IntKind.i64.wrap (m:Int)=(m:Int):=wrap64 (by omega) (by omega)
 have hx:∀S,AU 1 (.list false 1 (strs P)) (.int .i64 (m:Int)) S=some (.BA [.str (P[m]'(by omega))],S):=fun S=>Cm (by omega)
 rw[← hP]
 by_cases hl:P[m]'(by omega)=[]
 ·have hb:((P[m]'(by omega))==[])=true:=by simpa using hl
  have hb2:(P[m]'(by omega)).isEmpty=true:=by simpa using hl
  have hsl:∀S,Bc 1 false true false [.list false 1 (strs P),.int .i64 (m:Int)] S=some (.list false 1 (strs (P.take m)),S):=fun S=>by
   have h1:(strs P).take m=strs (P.take m):=by simp[strs]
   simp[Bc,Cx,Ba,Cv,beq_eq,Hd,ble_eq,hm,h1]
  refine⟨P.take m,-1,?_,.inr ⟨?_,rfl⟩⟩
  ·rw[Cc (fn:=C.f110) rfl rfl rfl,Ab (by simp)]
   simp[C.f110,hs,hle,hw,hx,hl,hsl,leave,results,AP]
   refine Cs ?_
   simp[AV.Bt,AV.Cq,Gc]
  ·rw[← hl,List.take_append_getElem,← hm,List.take_length]
 ·have hb2:(P[m]'(by omega)).isEmpty=false:=by simpa using hl
  refine⟨P,_,?_,.inl ⟨rfl,rfl,?_⟩⟩
  ·rw[Cc (fn:=C.f110) rfl rfl rfl,Ab (by simp)]
   simp[C.f110,hs,hle,hw,hx,hb2,leave,results,AP,hm]
   refine Cs ?_
   simp[AV.Bt,AV.Cq,Gc]
  ·rw[hm,show m+1-1=m by omega,List.getElem?_eq_getElem (by omega)]; simpa using hl
def ai (W:List Ay)(st:St)(x:AV × St):Prop:=
 ∃a w n,x.1=.tuple [.agg [.str a,w,.int .i64 n],.bool (Dt W).isSome]/\w.isTuple=false/\w.cells=[w]/\st.c<=x.2.c/\x.2.lo=st.lo/\top x.2.h<=x.2.c/\(∀p,p<st.c->AA x.2.h p=AA st.h p)/\∀r,Dt W=some r->a=r.left/\n=r.level/\Ce w 1 (strs r.right)
set_option maxHeartbeats 4000000 in
theorem Tj {k:Nat}{W:List Ay}{st:St}(hWl:W.length<100000)(hWm:∀x∈W,x.length<100000)(hWne:W≠[])(htp:top st.h<=st.c)(hlo0:st.lo=0) :
 (AR E (k+5) 112 [.list false 1 (strs W)] st).to (ai W st):=by
 rw[Af (fn:=C.f112) rfl rfl rfl,Ab (by simp)]
 obtain⟨h,c,lo⟩:=st
 have hlo:lo=0:=hlo0
 subst hlo
 have tp:top h<=c:=htp
 have hle:∀S,BX .slice (.list false 1 (strs W)) S=some (.int .i64 (W.length:Int),S):=fun S=>Jq
 have n2:newObj c (.cells 68 3 [.str [],.AB,.int .i64 0] false) ⟨h,c+1,0⟩=some ⟨(c,.cells 68 3 [.str [],.AB,.int .i64 0] false)::h,c+1,0⟩:=BC tp
 obtain⟨h1,hh1⟩:∃h1:Heap,h1=(c,Ai.cells 68 3 [.str [],.AB,.int .i64 0] false)::h:=⟨_,rfl⟩
 rw[← hh1] at n2
 have f1:AA h1 c=some (.cells 68 3 [.str [],.AB,.int .i64 0] false):=by rw[hh1,BZ rfl]
 have tp1:top h1<=c+1:=by rw[hh1,Av]; omega
 have fr1:∀p,p<c->AA h1 p=AA h p:=fun p hp=>by rw[hh1,BP (by omega)]
 have zst:∀{h':Heap} {c':Nat} {a b d a' b' d':AV},AA h' c=some (.cells 68 3 [a',b',d'] false)->BH 3 (.AO c 0) (.agg [a,b,d]) ⟨h',c',0⟩=some (.undef,⟨Aa h' c (.cells 68 3 [a,b,d] false),c',0⟩)/\Ac (Aa h' c (.cells 68 3 [a,b,d] false)) (.AO c 0) 3=some [a,b,d]:=fun {h' c' a b d a' b' d'} hf=>by
  refine⟨?_,by rw[CR,Ki rfl,hf]; simp⟩
  rw[Ci,hf,CB]; simp[AV.isTuple,AV.cells]
 have hfl0:Au [.str [],.AB,.int .i64 0] [] []=some [.str [],.AB,.int .i64 0]:=rfl
 by_cases hok:∃a R,W=a::[61]::R
 ·obtain⟨a,R,rfl⟩:=hok
  have i0:∀S,AU 1 (.list false 1 (strs (a::[61]::R))) (.int .i64 0) S=some (.BA [.str a],S):=fun S=>Cm (W:=a::[61]::R) (i:=0) (by simp)
  have i1:∀S,AU 1 (.list false 1 (strs (a::[61]::R))) (.int .i64 1) S=some (.BA [.str [61]],S):=fun S=>Cm (W:=a::[61]::R) (i:=1) (by simp)
  have sl:∀S,Bc 1 true false false [.list false 1 (strs (a::[61]::R)),.int .i64 2] S=some (.list false 1 (strs R),S):=fun S=>KZ (t:=false) (i:=2) (W:=a::[61]::R) (by simp)
  have hlt2:¬((R.length:Int)+1+1<2):=by omega
  have hfl:Au [.str [],.AB,.int .i64 0] [(0,1),(1,1)] [.str a,.list false 1 (strs R)]=some [.str a,.list false 1 (strs R),.int .i64 0]:=rfl
  have hn9:newObj (c+1) (.cells 68 3 [.str [],.AB,.int .i64 0] false) ⟨h1,c+1+1,0⟩=some ⟨(c+1,.cells 68 3 [.str [],.AB,.int .i64 0] false)::h1,c+1+1,0⟩:=BC tp1
  have hst:=DK (h:=h1) (c:=c+1) (c':=c+1+1) (lo:=0) (ty:=68) (n:=3) (zs:=[.str [],.AB,.int .i64 0]) (vs:=[.str a,.list false 1 (strs R),.int .i64 0]) (by omega) rfl rfl
  have hw2:IntKind.i64.wrap ((R.length:Int)+1+1-2)=(R.length:Int):=by
   rw[wrap64 (by simp at hWl; omega) (by simp at hWl; omega)]; omega
  have hw1:IntKind.i64.wrap ((R.length:Int)+1)=(R.length:Int)+1:=wrap64 (by simp at hWl; omega) (by simp at hWl; omega)
  have ld:∀(b d:AV),Ac ((c+1,.cells 68 3 [.str a,b,d] false)::h1) (.AO (c+1) 0) 3=some [.str a,b,d]:=fun b d=>by rw[CR,BZ rfl]; simp
  have fin:∀(w:AV) (n:Int) (b:Bool),b=(Dt (a::[61]::R)).isSome->w.isTuple=false->w.cells=[w]->(∀r,Dt (a::[61]::R)=some r->a=r.left/\n=r.level/\Ce w 1 (strs r.right)) ->
   BH 3 (.AO c 0) (.agg [.str a,w,.int .i64 n]) ⟨(c+1,.cells 68 3 [.str a,w,.int .i64 n] false)::h1,c+1+1,0⟩=some (.undef,⟨Aa ((c+1,.cells 68 3 [.str a,w,.int .i64 n] false)::h1) c (.cells 68 3 [.str a,w,.int .i64 n] false),c+1+1,0⟩) /\
   Ac (Aa ((c+1,.cells 68 3 [.str a,w,.int .i64 n] false)::h1) c (.cells 68 3 [.str a,w,.int .i64 n] false)) (.AO c 0) 3=some [.str a,w,.int .i64 n] /\
   ai (a::[61]::R) ⟨h,c,0⟩ (.tuple [.agg [.str a,w,.int .i64 n],.bool b],⟨Aa ((c+1,.cells 68 3 [.str a,w,.int .i64 n] false)::h1) c (.cells 68 3 [.str a,w,.int .i64 n] false),c+1+1,0⟩):=fun w n b hb hw1 hw2 hr=>by
   have z:=zst (h':=(c+1,.cells 68 3 [.str a,w,.int .i64 n] false)::h1) (c':=c+1+1) (a:=.str a) (b:=w) (d:=.int .i64 n) ((BP (by omega)).trans f1)
   refine⟨z.1,z.2,a,w,n,by rw[hb],hw1,hw2,by show c<=c+1+1; omega,rfl,?_,fun p hp=>?_,hr⟩
   ·show top (Aa _ _ _)<=_
    rw[FB,Av]; exact⟨by show c+1<c+1+1; omega,by show top h1<=c+1+1; omega⟩
   ·have hp:p<c:=hp
    show AA (Aa _ _ _) p=AA h p
    rw[HZ (by omega),BP (by omega)]; exact fr1 p hp
  by_cases hsl:2<=R.length/\R[R.length-2]? =some [47]
  ·obtain⟨h2R,hsl⟩:=hsl
   have hru:=MN (a:=a) ⟨h2R,hsl⟩
   rw[NM h2R] at hru
   have h2i:(4:Int)<=(R.length:Int)+1+1:=by omega
   rw[List.getElem?_eq_getElem (by omega),Option.some.injEq] at hsl
   have ik:∀S,AU 1 (.list false 1 (strs (a::[61]::R))) (.int .i64 (R.length:Int)) S=some (.BA [.str [47]],S):=fun S=>by
    have:=Cm (t:=false) (W:=a::[61]::R) (i:=R.length) (st:=S) (by simp; omega)
    rw[this,← hsl]
    obtain⟨m,hm⟩:∃m,R.length=m+2:=⟨R.length-2,by omega⟩
    simp[hm]
   obtain⟨z,hz⟩:∃z,z=R[R.length-1]'(by omega):=⟨_,rfl⟩
   rw[← hz] at hru
   have hzl:z.length<100000:=hWm z (by rw[hz]; simp)
   have ik1:∀S,AU 1 (.list false 1 (strs (a::[61]::R))) (.int .i64 ((R.length:Int)+1)) S=some (.BA [.str z],S):=fun S=>by
    have:=Cm (t:=false) (W:=a::[61]::R) (i:=R.length+1) (st:=S) (by simp)
    rw[show (((R.length+1:Nat)):Int)=(R.length:Int)+1 by omega] at this
    rw[this,hz]
    obtain⟨m,hm⟩:∃m,R.length=m+2:=⟨R.length-2,by omega⟩
    simp[hm]
   have hnum:=fun S=>Qm (k:=k) (s:=z) (st:=S) (by omega)
   unfold FM at hnum
   cases hv:numOf z with
   |none=>
    rw[hv] at hnum hru
    simp only[IA,Option.getD_none,Option.isSome_none] at hnum hru
    obtain⟨q1,q2,q3⟩:=fin (.list false 1 (strs R)) 0 true (by rw[hru]; rfl) rfl rfl (fun r hr=>by rw[hru] at hr; cases hr; exact⟨rfl,rfl,⟨.inr ⟨_,rfl⟩⟩⟩)
    simp[C.f112,n2,hle,Ag,AZ,BG,i0,i1,sl,hlt2,hw2,hw1,hn9,hst,hfl,h2i,ik,ik1,hnum,ld,q1,q2,leave,results,AP]
    exact q3
   |some v=>
    rw[hv] at hnum hru
    simp only[Option.getD_some,Option.isSome_some] at hnum
    have sl2:∀S,Bc 1 true true false [.list false 1 (strs (a::[61]::R)),.int .i64 2,.int .i64 (R.length:Int)] S=some (.list false 1 (strs (R.take (R.length-2))),S):=fun S=>by
     have:=Oc (t:=false) (W:=a::[61]::R) (i:=2) (j:=R.length) (st:=S) h2R (by simp; omega)
     obtain⟨m,hm⟩:∃m,R.length=m+2:=⟨R.length-2,by omega⟩
     rw[show ((a::[61]::R).take R.length).drop 2=R.take (R.length-2) by rw[hm]; simp] at this
     exact this
    have t1:BH 1 (.AO (c+1) 1) (.list false 1 (strs (R.take (R.length-2)))) ⟨(c+1,.cells 68 3 [.str a,.list false 1 (strs R),.int .i64 0] false)::h1,c+1+1,0⟩=some (.undef,⟨(c+1,.cells 68 3 [.str a,.list false 1 (strs (R.take (R.length-2))),.int .i64 0] false)::h1,c+1+1,0⟩):=by
     rw[Ci,BZ rfl,CB]; simp[AV.isTuple,AV.cells,Ld]
    have t2:BH 1 (.AO (c+1) 2) (.int .i64 v) ⟨(c+1,.cells 68 3 [.str a,.list false 1 (strs (R.take (R.length-2))),.int .i64 0] false)::h1,c+1+1,0⟩=some (.undef,⟨(c+1,.cells 68 3 [.str a,.list false 1 (strs (R.take (R.length-2))),.int .i64 v] false)::h1,c+1+1,0⟩):=by
     rw[Ci,BZ rfl,CB]; simp[AV.isTuple,AV.cells,Ld]
    obtain⟨q1,q2,q3⟩:=fin (.list false 1 (strs (R.take (R.length-2)))) v (v !=0) (by
     rw[hru]; simp only[IA]
     by_cases h0:v=0
     ·simp[h0]
     ·simp[h0]) rfl rfl (fun r hr=>by
     rw[hru] at hr
     simp only[IA] at hr
     split at hr
     ·cases hr
     ·cases hr; exact⟨rfl,rfl,⟨.inr ⟨_,rfl⟩⟩⟩)
    simp[C.f112,n2,hle,Ag,AZ,BG,i0,i1,sl,hlt2,hw2,hw1,hn9,hst,hfl,h2i,ik,ik1,hnum,sl2,t1,t2,ld,q1,q2,leave,results,AP]
    exact q3
  ·have hru:Dt (a::[61]::R)=some ⟨a,R,0⟩:=Nr hsl
   obtain⟨q1,q2,q3⟩:=fin (.list false 1 (strs R)) 0 true (by rw[hru]; rfl) rfl rfl (fun r hr=>by rw[hru] at hr; cases hr; exact⟨rfl,rfl,⟨.inr ⟨_,rfl⟩⟩⟩)
   by_cases h2R:2<=R.length
   ·have h2i:(4:Int)<=(R.length:Int)+1+1:=by omega
    have hx:R[R.length-2]?≠some [47]:=fun e=>hsl ⟨h2R,e⟩
    rw[List.getElem?_eq_getElem (by omega)] at hx
    have hx':((R[R.length-2]'(by omega))==[47])=false:=by simpa using hx
    have ik:∀S,AU 1 (.list false 1 (strs (a::[61]::R))) (.int .i64 (R.length:Int)) S=some (.BA [.str (R[R.length-2]'(by omega))],S):=fun S=>by
     have:=Cm (t:=false) (W:=a::[61]::R) (i:=R.length) (st:=S) (by simp; omega)
     rw[this]
     obtain⟨m,hm⟩:∃m,R.length=m+2:=⟨R.length-2,by omega⟩
     simp[hm]
    simp[C.f112,n2,hle,Ag,AZ,BG,i0,i1,sl,hlt2,hw2,hn9,hst,hfl,h2i,ik,hx',ld,q1,q2,leave,results,AP]
    exact q3
   ·have h2i:¬(4:Int)<=(R.length:Int)+1+1:=by omega
    simp[C.f112,n2,hle,Ag,AZ,BG,i0,i1,sl,hlt2,hn9,hst,hfl,h2i,ld,q1,q2,leave,results,AP]
    exact q3
 ·have hno:=MO hok
  have z:=zst (h':=h1) (c':=c+1) (a:=.str []) (b:=.AB) (d:=.int .i64 0) f1
  have R0:ai W ⟨h,c,0⟩ (.tuple [.agg [.str [],.AB,.int .i64 0],.bool false],⟨Aa h1 c (.cells 68 3 [.str [],.AB,.int .i64 0] false),c+1,0⟩):=by
   refine⟨[],.AB,0,by rw[hno]; rfl,rfl,rfl,by show c<=c+1; omega,rfl,?_,fun p hp=>?_,fun r hr=>by rw[hno] at hr; cases hr⟩
   ·show top (Aa _ _ _)<=_
    rw[FB]; exact tp1
   ·have hp:p<c:=hp
    show AA (Aa _ _ _) p=AA h p
    rw[HZ (by omega)]; exact fr1 p hp
  match W,hWne with
  |[a],_=>
   simp[C.f112,n2,hle,Ag,AZ,BG,hfl0,z.1,z.2,leave,results,AP]
   exact R0
  |a::b::R,_=>
   have hb:(b !=[61])=true:=by
    have:b≠[61]:=fun e=>hok ⟨a,R,by rw[e]⟩
    simpa using this
   have hb2:(b==[61])=false:=by simpa using hb
   have hlt2:¬((R.length:Int)+1+1<2):=by omega
   have i1:∀S,AU 1 (.list false 1 (strs (a::b::R))) (.int .i64 1) S=some (.BA [.str b],S):=fun S=>Cm (W:=a::b::R) (i:=1) (by simp)
   simp[C.f112,n2,hle,Ag,AZ,BG,i1,hlt2,hb,hb2,hfl0,z.1,z.2,leave,results,AP]
   exact R0
theorem Mi.up {oo:Nat}{g:Aj}{kv rv:AV}{ls:List AV}{S0:St}{h h':Heap}{c c':Nat}(H:Mi oo g kv rv ls S0 ⟨h,c,0⟩)(hc:c<=c')(ht:top h'<=c')(hf:∀p,p<c->AA h' p=AA h p):Mi oo g kv rv ls S0 ⟨h',c',0⟩:=by
 have hown:∀p,BR rv=some p->S0.c<=p/\p<c:=H.own
 have hoc:=H.oc
 have hcc:S0.c<=c:=H.c
 exact⟨(hf oo (by omega)).trans H.at_,H.kinds,H.rules,bI.heap H.sl fun p hp=>hf p (hown p hp).2,fun p hp=>⟨(hown p hp).1,by have:=(hown p hp).2; show p<c'; omega⟩,by show S0.c<=c'; omega,rfl,ht,hoc,fun p hp hne=>(hf p (by omega)).trans (H.fr p hp hne)⟩
theorem Pe {P L:List Ay}{i:Nat}(h:L++[[]]=P)(hi:i<L.length):∃h2:i<P.length,P[i]=L[i]/\P.drop (i+1)≠[]:=by
 subst h
 refine⟨by simp; omega,List.getElem_append_left hi,?_⟩
 intro e
 have:=congrArg List.length e
 simp at this; omega
set_option maxHeartbeats 4000000 in
theorem SC {k:Nat}{P L:List Ay}{o:Int}(hPl:P.length<=20001)(hPm:∀x∈P,x.length<=20000)(hL:(L=P/\o=((P.length-1:Nat):Int)/\P[P.length-1]?≠some [])∨(L++[[]]=P/\o=-1))(hPne:P≠[]){S0:St}{kv0 rv0:AV}{ls0:List AV}(H0:Mi 2 Bb kv0 rv0 ls0 S0 S0)(hz0:AA S0.h 0=some (.cells 29 3 [.AB,.str [],.AB] false))(hz1:AA S0.h 1=some (.cells 29 3 [.AB,.str [],.AB] false))(ts0:TS)(z2:ts0.get 2=.AO 0 0)(z5:ts0.get 5=.AO 1 0)(z6:ts0.get 6=.list false 1 (strs L))(z7:ts0.get 7=.int .i64 o)(z8:ts0.get 8=.AO 2 0)(z26:ts0.get 26=.list false 1 (strs L))(z27:ts0.get 27=.int .i64 (L.length:Int))(z28:ts0.get 28=.int .i64 ((0:Nat):Int)) :
 (DN (BB E (AR E (k+5)) C.f39L0) E.k ts0 S0).to fun x=>
  (x.1=.exit 0/\∃g kv rv ls,readAll 0 Bb P=.done L.length g/\Has x.2.1 [(2,.AO 0 0),(5,.AO 1 0),(6,.list false 1 (strs L)),(8,.AO 2 0)]/\Mi 2 g kv rv ls S0 x.2.2/\g.FP) ∨
  (x.1=.ret/\∃n,readAll 0 Bb P=.bad n/\n<=20001/\Has x.2.1 [(2,.AO 0 0),(3,.int .i64 (n:Int)),(4,.int .i64 9)]/\AA x.2.2.h 0=some (.cells 29 3 [.AB,.str [],.AB] false)):=by
 have hLl:L.length<=P.length:=by
  rcases hL with⟨rfl,_⟩|⟨h,_⟩
  ·exact Nat.le_refl _
  ·rw[← h]; simp
 refine Ct (fun (i:Nat) ts st=>∃g kv rv ls,i<=L.length/\Has ts [(2,.AO 0 0),(5,.AO 1 0),(6,.list false 1 (strs L)),(7,.int .i64 o),(8,.AO 2 0),(26,.list false 1 (strs L)),(27,.int .i64 (L.length:Int)),(28,.int .i64 (i:Int))]/\Mi 2 g kv rv ls S0 st/\g.FP/\g.rules.length<=i/\i<P.length/\readAll i g (P.drop i)=readAll 0 Bb P)
  (fun n=>L.length-n) ?_ _ 0 _ _ ?_ ?_
 ·clear z2 z5 z6 z7 z8 z26 z27 z28
  rintro i ts ⟨h,c,lo⟩ ⟨g,kv,rv,ls,hi,hts,H,hW,hrl,hiP,hq⟩
  simp only[Gs,IY,and_true] at hts
  obtain⟨z2,z5,z6,z7,z8,z26,z27,z28⟩:=hts
  have hlo:lo=0:=H.lo
  subst hlo
  have hcc:S0.c<=c:=H.c
  have hoc:2<S0.c:=H.oc
  have f0:AA h 0=some (.cells 29 3 [.AB,.str [],.AB] false):=(H.fr 0 (by omega) (by omega)).trans hz0
  have f1:AA h 1=some (.cells 29 3 [.AB,.str [],.AB] false):=(H.fr 1 (by omega) (by omega)).trans hz1
  have hat:AA h 2=some (.cells 29 3 [kv,.str g.start,rv] false):=H.at_
  have zst:∀{h':Heap} {c':Nat},AA h' 0=some (.cells 29 3 [.AB,.str [],.AB] false)->BH 3 (.AO 0 0) (.agg [.AB,.str [],.AB]) ⟨h',c',0⟩=some (.undef,⟨Aa h' 0 (.cells 29 3 [.AB,.str [],.AB] false),c',0⟩)/\AA (Aa h' 0 (.cells 29 3 [.AB,.str [],.AB] false)) 0=some (.cells 29 3 [.AB,.str [],.AB] false):=fun hf=>by
   refine⟨?_,by rw[Ki rfl,hf]; rfl⟩
   rw[Ci,hf,CB]; simp[AV.isTuple,AV.cells]
  have ld1:∀{h':Heap},AA h' 1=some (.cells 29 3 [.AB,.str [],.AB] false)->Ac h' (.AO 1 0) 3=some [.AB,.str [],.AB]:=fun hf=>by rw[CR,hf]; simp
  by_cases BQ:i<L.length
  ·obtain⟨l,hl⟩:∃l,l=L[i]:=⟨_,rfl⟩
   have hix:∀S,AU 1 (.list false 1 (strs L)) (.int .i64 (i:Int)) S=some (.BA [.str l],S):=fun S=>by rw[hl]; exact Cm BQ
   have hPi:P[i]=l:=by
    rcases hL with⟨rfl,_⟩|⟨hh,_⟩
    ·exact hl.symm
    ·obtain⟨_,e,_⟩:=Pe hh BQ; rw[e,hl]
   have hll:l.length<=20000:=hPi ▸ hPm _ (List.getElem_mem hiP)
   rw[List.drop_eq_getElem_cons hiP,hPi] at hq
   obtain⟨W,hWd⟩:∃W,W=splitOn 32 l:=⟨_,rfl⟩
   have hWne:W≠[]:=hWd ▸ Dq 32 l
   have hWl:W.length<=l.length+1:=hWd ▸ DF 32 l
   have hWm:∀x∈W,x.length<=l.length:=hWd ▸ GX 32 l
   have hw:=SB (k:=k+1) (s:=l) (st:=⟨h,c,0⟩) (by omega)
   rw[← hWd] at hw
   have bad:∀n:Nat,n=i->readAll 0 Bb P=.bad i->n<=20001:=fun n e _=>by omega
   by_cases ho:(i:Int)=o
   ·have hb:readAll 0 Bb P=.bad i:=by
     rcases hL with⟨rfl,h2,h3⟩|⟨_,h2⟩
     ·have hi1:i=L.length-1:=by omega
      have hd:L.drop (i+1)=[]:=List.drop_of_length_le (by omega)
      rw[hd] at hq
      rw[← hq,Ky,if_neg]
      intro e
      refine h3 ?_
      rw[← hi1,List.getElem?_eq_getElem BQ,hPi,e]
     ·omega
    have ho':((i:Int)==o)=true:=by simpa using ho
    simp[C.f39L0,z2,z5,z6,z7,z8,z26,z27,z28,BQ,hix,hw,ho',Ag,AZ,BG,ld1 f1,(zst f0).1]
    exact⟨i,hb,by omega,rfl,(zst (c':=c) f0).2⟩
   ·have ho':((i:Int)==o)=false:=by simpa using ho
    have hrest:P.drop (i+1)≠[]:=by
     rcases hL with⟨rfl,h2,_⟩|⟨hh,_⟩
     ·intro e
      have:=congrArg List.length e
      simp at this; omega
     ·exact (Pe hh BQ).2.2
    have badOf:Cg i l g=none->readAll 0 Bb P=.bad i:=fun e=>by rw[← hq,Ps hrest e]
    have next:∀(g':Aj) (kv' rv':AV) (ls':List AV) (st':St),Cg i l g=some g'->Mi 2 g' kv' rv' ls' S0 st'->∃b,L.length-b<L.length-i/\b<=L.length/\((i:Int)+1=(b:Int))/\∃x,(∃x_1 x_2 x_3,Mi 2 x x_1 x_2 x_3 S0 st')/\x.FP/\x.rules.length<=b/\b<P.length/\readAll b x (P.drop b)=readAll 0 Bb P:=fun g' kv' rv' ls' st' e G=>by
     obtain⟨hW',hrl'⟩:=Jb e hll hW (by omega)
     refine⟨i+1,by omega,by omega,by omega,g',⟨kv',rv',ls',G⟩,hW',by omega,?_,by rw[← OX hrest e]; exact hq⟩
     rcases Nat.lt_or_ge (i+1) P.length with h|h
     ·exact h
     ·exact absurd (List.drop_of_length_le h) hrest
    by_cases he:[]∈W
    ·have hb:=badOf (PM (hWd ▸ he))
     have he':(!decide ([]∈W))=false:=by simp[he]
     rw[he'] at hw
     simp[C.f39L0,z2,z5,z6,z7,z8,z26,z27,z28,BQ,hix,hw,ho',Ag,AZ,BG,ld1 f1,(zst f0).1]
     exact⟨i,hb,by omega,rfl,(zst (c':=c) f0).2⟩
    ·have he':(!decide ([]∈W))=true:=by simp[he]
     rw[he'] at hw
     have hle:∀S,BX .slice (.list false 1 (strs W)) S=some (.int .i64 (W.length:Int),S):=fun S=>Jq
     by_cases hi2:2<=i
     ·have hs2:=Vg (g:=g) (line:=l) (hWd ▸ he) hi2
      rw[← hWd] at hs2
      have n0:((i:Int)==0)=false:=by simp; omega
      have n1:((i:Int)==1)=false:=by simp; omega
      have tp:top h<=c:=H.tp
      have hru:=Tj (k:=k) (W:=W) (st:=⟨h,c+1,0⟩) (by omega) (fun x hx=>by have:=hWm x hx; omega) hWne (by show top h<=c+1; omega) rfl
      simp[C.f39L0,z2,z5,z6,z7,z8,z26,z27,z28,BQ,hix,hw,ho',n0,n1,Ag,AZ,BG,-M.bind_assoc]
      simp only[M.bind_assoc]
      refine M.BN hru fun x hx=>?_
      obtain⟨v,⟨h3,c3,lo3⟩⟩:=x
      obtain⟨a,w,nn,rfl,w1,w2,k1,k2,k3,k4,k5⟩:=hx
      have k1:c+1<=c3:=k1
      have k2:lo3=0:=k2
      subst k2
      have k3:top h3<=c3:=k3
      have k4:∀p,p<c+1->AA h3 p=AA h p:=k4
      have hcn:AA h3 c=none:=(k4 c (by omega)).trans (IB (KO.1 tp) (Nat.le_refl c))
      obtain⟨h4,q1,q2,q3⟩:=MU (st:=⟨h3,c3,0⟩) (o:=c) (y:=.cells 68 3 [.str [],.AB,.int .i64 0] false) hcn
      have q2:∀p,AA h4 p=if c=p then some (.cells 68 3 [.str [],.AB,.int .i64 0] false) else AA h3 p:=q2
      have hf4:AA h4 c=some (.cells 68 3 [.str [],.AB,.int .i64 0] false):=by rw[q2,if_pos rfl]
      have tp4:top h4<=c3:=KO.2 fun p x hm=>by
       rcases q3 p x hm with⟨rfl,_⟩|hm
       ·omega
       ·exact KO.1 k3 p x hm
      have st5:BH 3 (.AO c 0) (.agg [.str a,w,.int .i64 nn]) ⟨h4,c3,0⟩=some (.undef,⟨Aa h4 c (.cells 68 3 [.str a,w,.int .i64 nn] false),c3,0⟩):=by
       rw[Ci,hf4,CB]; simp[AV.isTuple,AV.cells]
      obtain⟨h5,hh5⟩:∃h5,h5=Aa h4 c (Ai.cells 68 3 [.str a,w,.int .i64 nn] false):=⟨_,rfl⟩
      rw[← hh5] at st5
      have f5:AA h5 c=some (.cells 68 3 [.str a,w,.int .i64 nn] false):=by rw[hh5,Ki rfl,hf4]; rfl
      have old5:∀p,p<c->AA h5 p=AA h p:=fun p hp=>by rw[hh5,HZ (by omega),q2,if_neg (by omega),k4 p (by omega)]
      have tp5:top h5<=c3:=by rw[hh5,FB]; exact tp4
      have G5:=H.up (c':=c3) (by omega) tp5 old5
      have hv:Dt W=none∨∃r,Dt W=some r:=by cases Dt W <;> simp
      rcases hv with hv|⟨r,hv⟩
      ·rw[hv] at hs2
       have hb:=badOf hs2
       have g0:=(old5 0 (by omega)).trans f0
       simp[hv,q1,st5,z2,z5,ld1 ((old5 1 (by omega)).trans f1),(zst g0).1]
       exact⟨i,hb,by omega,rfl,(zst (c':=c3) g0).2⟩
      ·rw[hv] at hs2
       simp only[Option.map_some] at hs2
       obtain⟨rfl,rfl,k6⟩:=k5 r hv
       obtain⟨h6,p1,p2,G6⟩:=G5.push (r:=r) k6 (by have:=H.rules.length; omega)
       have nx:=next _ _ _ _ _ hs2 G6
       have rc:Ac h5 (.AO c 0) 3=some [.str r.left,w,.int .i64 r.level]:=by rw[CR,f5]; simp
       have r2:AQ h5 (.AO 2 2)=some rv:=by rw[GM,(old5 2 (by omega)).trans hat]; rfl
       have hbs:=XX c3 (a:=.str r.left) (b:=w) (d:=.int .i64 r.level) ⟨w1,w2⟩
       have n7:newObj c3 (.cells 68 3 [.str r.left,w,.int .i64 r.level] false) ⟨h5,c3+2,0⟩=some ⟨(c3,.cells 68 3 [.str r.left,w,.int .i64 r.level] false)::h5,c3+2,0⟩:=BC tp5
       have s7:=LV (c:=c3+2) (x:=.AY (c3+1) 0 (ls.length+1) none) (i:=2) p2 (by omega) ⟨rfl,rfl⟩
       simp only[List.set_cons_zero,List.set_cons_succ] at s7
       simp[hv,q1,st5,z2,z5,z6,z7,z8,z26,z27,z28,rc,r2,hbs,n7,p1,s7,wi i (by omega)]
       exact nx
     ·obtain⟨a,W',rfl⟩:∃a W',W=a::W':=by
       cases W with
       |nil=>exact absurd rfl hWne
       |cons a l=>exact⟨a,l,rfl⟩
      have i0:∀S,AU 1 (.list false 1 (strs (a::W'))) (.int .i64 0) S=some (.BA [.str a],S):=fun S=>Cm (W:=a::W') (i:=0) (by simp)
      by_cases hi0:i=0
      ·subst hi0
       have hs0:=Vi (g:=g) (line:=l) (hWd ▸ he)
       rw[← hWd] at hs0
       simp only[List.head?_cons,Option.some.injEq,List.tail_cons] at hs0
       by_cases ha:a=TT
       ·rw[if_pos ha] at hs0
        have ha':(a !=[116,111,107,101,110,115])=false:=by rw[ha]; rfl
        have ha'':(a==[116,111,107,101,110,115])=true:=by rw[ha]; rfl
        have sl:∀S,Bc 1 true false false [.list false 1 (strs (a::W')),.int .i64 1] S=some (.list false 1 (strs W'),S):=fun S=>KZ (t:=false) (i:=1) (W:=a::W') (by simp)
        have s1:=LV (c:=c) (x:=.list false 1 (strs W')) (i:=0) hat (by omega) ⟨rfl,rfl⟩
        have G:=H.put (kv':=.list false 1 (strs W')) (g':={ g with kinds:=W' }) ⟨.inr ⟨_,rfl⟩⟩ rfl
        simp only[List.set_cons_zero] at s1
        have nx:=next _ _ _ _ _ hs0 G
        have hlt':(0:Int)<(L.length:Int):=by omega
        have ho0:((0:Int)==o)=false:=by simpa using ho'
        have hix0:∀S,AU 1 (.list false 1 (strs L)) (.int .i64 0) S=some (.BA [.str l],S):=fun S=>hix S
        simp[C.f39L0,z2,z5,z6,z7,z8,z26,z27,z28,hlt',BQ,hix0,hw,ho0,Ag,AZ,BG,i0,ha',ha'',sl,s1]
        simpa [show IntKind.i64.wrap 1=1 from rfl] using nx
       ·rw[if_neg ha] at hs0
        have hb:=badOf hs0
        have ha':(a !=[116,111,107,101,110,115])=true:=by simpa [TT] using ha
        have ha'':(a==[116,111,107,101,110,115])=false:=by simpa [TT] using ha
        have hlt':(0:Int)<(L.length:Int):=by omega
        have ho0:((0:Int)==o)=false:=by simpa using ho'
        have hix0:∀S,AU 1 (.list false 1 (strs L)) (.int .i64 0) S=some (.BA [.str l],S):=fun S=>hix S
        simp[C.f39L0,z2,z5,z6,z7,z8,z26,z27,z28,hlt',BQ,hix0,hw,ho0,Ag,AZ,BG,i0,ha',ha'',ld1 f1,(zst f0).1]
        exact⟨0,hb,by omega,rfl,(zst (c':=c) f0).2⟩
      ·have hi1:i=1:=by omega
       subst hi1
       have hs1:=Vh (g:=g) (line:=l) (hWd ▸ he)
       rw[← hWd] at hs1
       have hlt':(1:Int)<(L.length:Int):=by omega
       have ho0:((1:Int)==o)=false:=by simpa using ho'
       have hix0:∀S,AU 1 (.list false 1 (strs L)) (.int .i64 1) S=some (.BA [.str l],S):=fun S=>hix S
       by_cases ha:a=MK
       ·have ha':(a !=[115,116,97,114,116])=false:=by rw[ha]; rfl
        have ha'':(a==[115,116,97,114,116])=true:=by rw[ha]; rfl
        by_cases h2:W'.length=1
        ·obtain⟨b,rfl⟩:∃b,W'=[b]:=List.length_eq_one_iff.1 h2
         have i1:∀S,AU 1 (.list false 1 (strs [a,b])) (.int .i64 1) S=some (.BA [.str b],S):=fun S=>Cm (W:=[a,b]) (i:=1) (by simp)
         simp only[LW] at hs1
         rw[if_pos ha] at hs1
         have s1:=LV (c:=c) (x:=.str b) (i:=1) hat (by omega) ⟨rfl,rfl⟩
         have G:=H.put (kv':=kv) (g':={ g with start:=b }) H.kinds rfl
         simp only[List.set_cons_zero,List.set_cons_succ] at s1
         have nx:=next _ _ _ _ _ hs1 G
         simp[C.f39L0,z2,z5,z6,z7,z8,z26,z27,z28,hlt',BQ,hix0,hw,ho0,Ag,AZ,BG,i0,i1,hle,ha',ha'',s1]
         simpa [show IntKind.i64.wrap (1+1)=2 from rfl,show IntKind.i64.wrap 2=2 from rfl] using nx
        ·have h2':(((W'.length:Int)+1)==2)=false:=by simp; omega
         have h2'':(((W'.length:Int)+1) !=2)=true:=by simp; omega
         have hb:readAll 0 Bb P=.bad 1:=badOf (by
          rw[hs1]
          match W',h2 with
          |[],_=>rfl
          |b::b2::t,_=>rfl)
         simp[C.f39L0,z2,z5,z6,z7,z8,z26,z27,z28,hlt',BQ,hix0,hw,ho0,Ag,AZ,BG,i0,hle,ha',ha'',h2',h2'',ld1 f1,(zst f0).1]
         exact⟨1,hb,by omega,rfl,(zst (c':=c) f0).2⟩
       ·have ha':(a !=[115,116,97,114,116])=true:=by simpa [MK] using ha
        have ha'':(a==[115,116,97,114,116])=false:=by simpa [MK] using ha
        have hb:readAll 0 Bb P=.bad 1:=badOf (by
         rw[hs1]
         match W' with
         |[]=>rfl
         |[b]=>simp only[LW]; rw[if_neg ha]
         |b::b2::t=>rfl)
        simp[C.f39L0,z2,z5,z6,z7,z8,z26,z27,z28,hlt',BQ,hix0,hw,ho0,Ag,AZ,BG,i0,hle,ha',ha'',ld1 f1,(zst f0).1]
        exact⟨1,hb,by omega,rfl,(zst (c':=c) f0).2⟩
  ·have hiL:i=L.length:=by omega
   have hLP:L++[[]]=P:=by
    rcases hL with⟨rfl,_⟩|⟨hh,_⟩
    ·omega
    ·exact hh
   have hdone:readAll 0 Bb P=.done L.length g:=by
    rw[← hq,← hLP,hiL,List.drop_left]; rfl
   subst hiL
   simp[C.f39L0,z2,z5,z6,z7,z8,z26,z27,z28]
   exact⟨g,hdone,⟨kv,rv,ls,H⟩,hW⟩
 ·show L.length-0<1000000; omega
 ·exact⟨Bb,kv0,rv0,ls0,by omega,by simp[z2,z5,z6,z7,z8,z26,z27,z28],H0,FT,by simp[Bb],by cases P with|nil=>exact absurd rfl hPne|cons a l=>simp,rfl⟩
set_option maxHeartbeats 2000000 in
theorem Tk {k:Nat}{t:Ay}{st:St}(hl:t.length<1000000):∃v,AR E (k+8) 39 [.str t] st=.ret (v,st)/\Lj t v:=by
 rw[Ca (fn:=C.f39) rfl rfl rfl (by rfl),Ab (by simp)]
 have goal:((BB E (AR E (k+7)) C.f39.body (TS.Cy [.str t] 0 .nil) ⟨[],0,0⟩).bind (leave C.f39.results)).to fun r=>∃v,Am.CZ 0 r.2.h 64 r.1=some v/\Lj t v:=by
  have hbuild:Au [.AB,.str [],.AB] [] []=some [.AB,.str [],.AB]:=rfl
  obtain⟨h0,hh0⟩:∃h:Heap,h=[(0,Ai.cells 29 3 [.AB,.str [],.AB] false)]:=⟨_,rfl⟩
  have n0:newObj 0 (.cells 29 3 [.AB,.str [],.AB] false) ⟨[],1,0⟩=some ⟨h0,1,0⟩:=by rw[hh0]; rfl
  have f0:AA h0 0=some (.cells 29 3 [.AB,.str [],.AB] false):=by rw[hh0]; rfl
  have tp0:top h0<=1:=by rw[hh0]; simp[top]
  have n1:newObj 1 (.cells 29 3 [.AB,.str [],.AB] false) ⟨h0,2,0⟩=some ⟨(1,.cells 29 3 [.AB,.str [],.AB] false)::h0,2,0⟩:=BC tp0
  obtain⟨h1,hh1⟩:∃h:Heap,h=(1,Ai.cells 29 3 [.AB,.str [],.AB] false)::h0:=⟨_,rfl⟩
  have s1:BH 3 (.AO 1 0) (.agg [.AB,.str [],.AB]) ⟨(1,.cells 29 3 [.AB,.str [],.AB] false)::h0,2,0⟩=some (.undef,⟨h1,2,0⟩):=by
   rw[Ci,BZ rfl,CB]; simp[AV.isTuple,AV.cells,Ld,hh1]
  have tp1:top h1<=2:=by rw[hh1,Av]; omega
  have f10:AA h1 0=some (.cells 29 3 [.AB,.str [],.AB] false):=by rw[hh1,BP (by omega)]; exact f0
  have f11:AA h1 1=some (.cells 29 3 [.AB,.str [],.AB] false):=by rw[hh1,BZ rfl]
  have zst:∀{h':Heap} {c':Nat} {a b d a' b' d':AV},AA h' 0=some (.cells 29 3 [a',b',d'] false)->BH 3 (.AO 0 0) (.agg [a,b,d]) ⟨h',c',0⟩=some (.undef,⟨Aa h' 0 (.cells 29 3 [a,b,d] false),c',0⟩)/\Ac (Aa h' 0 (.cells 29 3 [a,b,d] false)) (.AO 0 0) 3=some [a,b,d]:=fun {h' c' a b d a' b' d'} hf=>by
   refine⟨?_,by rw[CR,Ki rfl,hf]; simp⟩
   rw[Ci,hf,CB]; simp[AV.isTuple,AV.cells]
  have ld:∀{h':Heap} {p:Nat} {a b d:AV},AA h' p=some (.cells 29 3 [a,b,d] false)->Ac h' (.AO p 0) 3=some [a,b,d]:=fun hf=>by rw[CR,hf]; simp
  have zero:∀(h':Heap) (n:Nat) (e:Int),(BJ t=(Bb,n,e))->∃v,Am.CZ 0 h' 64 (.tuple [.agg [.AB,.str [],.AB],.int .i64 (n:Int),.int .i64 e])=some v/\Lj t v:=fun h' n e he=>⟨_,DU (n:=63) rfl,_,by rw[he],by rw[he]; exact RO⟩
  by_cases hbig:20000<t.length
  ·have hbig':(20000:Int)<(t.length:Int):=by omega
   have hrt:BJ t=(Bb,0,2):=by unfold BJ; rw[if_pos hbig]
   have:=zst (c':=2) (a:=.AB) (b:=.str []) (d:=.AB) f10
   simp[C.f39,n0,n1,s1,hbig',hbuild,ld f11,this.1,this.2,leave,results,AP]
   exact zero _ 0 2 hrt
  ·have hbig':¬(20000:Int)<(t.length:Int):=by omega
   obtain⟨P,hP⟩:∃P,P=splitOn 10 t:=⟨_,rfl⟩
   have hPne:P≠[]:=hP ▸ Dq 10 t
   have hPl:P.length<=t.length+1:=hP ▸ DF 10 t
   have hPm:∀x∈P,x.length<=t.length:=hP ▸ GX 10 t
   obtain⟨L,o,hli,hLo⟩:=YU (k:=k+4) (t:=t) (st:=⟨h1,2,0⟩) (by omega)
   rw[← hP] at hLo
   have n2:newObj 2 (.cells 29 3 [.AB,.str [],.AB] false) ⟨h1,3,0⟩=some ⟨(2,.cells 29 3 [.AB,.str [],.AB] false)::h1,3,0⟩:=BC tp1
   obtain⟨h2,hh2⟩:∃h:Heap,h=(2,Ai.cells 29 3 [.AB,.str [],.AB] false)::h1:=⟨_,rfl⟩
   rw[← hh2] at n2
   have H0:Mi 2 Bb .AB .AB [] ⟨h2,3,0⟩ ⟨h2,3,0⟩:=⟨by show AA h2 2=_; rw[hh2,BZ rfl]; rfl,⟨.inl ⟨rfl,rfl⟩⟩,.nil,.inl ⟨rfl,rfl⟩,fun p hp=>(by cases hp),Nat.le_refl _,rfl,by show top h2<=3; rw[hh2,Av]; omega,by show 2<3; omega,fun p _ _=>rfl⟩
   have f20:AA h2 0=some (.cells 29 3 [.AB,.str [],.AB] false):=by rw[hh2,BP (by omega)]; exact f10
   have f21:AA h2 1=some (.cells 29 3 [.AB,.str [],.AB] false):=by rw[hh2,BP (by omega)]; exact f11
   have hLl:L.length<=P.length:=by
    rcases hLo with⟨rfl,_⟩|⟨h,_⟩
    ·exact Nat.le_refl _
    ·rw[← h]; simp
   have loop:=fun ts0 a b c d e f g i=>SC (k:=k+2) (P:=P) (L:=L) (o:=o) (by omega) (fun x hx=>by have:=hPm x hx; omega) hLo hPne (S0:=⟨h2,3,0⟩) H0 f20 f21 ts0 a b c d e f g i
   have hle:∀S,BX .slice (.list false 1 (strs L)) S=some (.int .i64 (L.length:Int),S):=fun S=>Jq
   simp[C.f39,n0,n1,s1,hbig',hbuild,hli,n2,hle,-M.bind_assoc]
   simp only[M.bind_assoc]
   refine M.BN (loop _ (by simp) (by simp) (by simp) (by simp) (by simp) (by simp) (by simp) (by simp)) fun x hx=>?_
   obtain⟨e,ts1,⟨h3,c3,lo3⟩⟩:=x
   rcases hx with⟨rfl,g,kv,rv,ls,hd,hts,G,hW⟩|⟨rfl,n,hd,hn,hts,hf2⟩
   ·rw[hP] at hd
    simp only[Gs,IY,and_true] at hts
    obtain⟨z2,z5,z6,z8⟩:=hts
    have hl2:lo3=0:=G.lo
    subst hl2
    have g0:AA h3 0=some (.cells 29 3 [.AB,.str [],.AB] false):=(G.fr 0 (by show 0<3; omega) (by omega)).trans f20
    have g1:AA h3 1=some (.cells 29 3 [.AB,.str [],.AB] false):=(G.fr 1 (by show 1<3; omega) (by omega)).trans f21
    have hat:AA h3 2=some (.cells 29 3 [kv,.str g.start,rv] false):=G.at_
    have s0:=zst (c':=c3) (a:=.AB) (b:=.str []) (d:=.AB) g0
    by_cases hn2:L.length<2
    ·have hn2':(L.length:Int)<2:=by omega
     have hrt:BJ t=(Bb,L.length,9):=by unfold BJ; rw[if_neg hbig,hd]; simp only[hn2,if_true]
     simp[z2,z5,z6,z8,hle,hn2',ld g1,s0.1,s0.2,leave,results,AP]
     exact zero _ L.length 9 hrt
    ·have hn2':¬(L.length:Int)<2:=by omega
     obtain⟨u,hu,hth⟩:=G.CZ
     have hck:=Oi (k:=k) (st:=⟨h3,c3,0⟩) (hth (fun _ _=>rfl) 64 (by omega)) hu hW
     by_cases hz:g.Cb=0
     ·have hrt:BJ t=(g,0,0):=by unfold BJ; rw[if_neg hbig,hd]; simp only[hn2,hz,if_true,if_false]
      rw[hz] at hck
      have s1:=zst (c':=c3) (a:=kv) (b:=.str g.start) (d:=rv) g0
      simp[z2,z5,z6,z8,hle,hn2',ld hat,hck,s1.1,s1.2,leave,results,AP]
      refine⟨.tuple [u,.int .i64 0,.int .i64 0],?_,u,by rw[hrt]; rfl,by rw[hrt]; exact hu⟩
      have:=hth (h':=Aa h3 0 (.cells 29 3 [kv,.str g.start,rv] false)) (fun p hp=>HZ (by have:=(G.own p hp).1; have:3<=p:=this; omega)) 63 (by omega)
      exact RI (by simp[CO,this,DU (show (AV.int .i64 0).Bt 0=true from rfl)]) (by omega)
     ·have hz':(g.Cb==0)=false:=by simpa using hz
      have hz'':(g.Cb !=0)=true:=by simpa using hz
      have hrt:BJ t=(Bb,0,g.Cb):=by unfold BJ; rw[if_neg hbig,hd]; simp only[hn2,hz,if_false]
      simp[z2,z5,z6,z8,hle,hn2',ld hat,hck,hz',hz'',ld g1,s0.1,s0.2,leave,results,AP]
      exact zero _ 0 g.Cb hrt
   ·rw[hP] at hd
    simp only[Gs,IY,and_true] at hts
    obtain⟨z2,z3,z4⟩:=hts
    have hrt:BJ t=(Bb,n,9):=by unfold BJ; rw[if_neg hbig,hd]
    have hf2:AA h3 0=some (.cells 29 3 [.AB,.str [],.AB] false):=hf2
    simp[z2,z3,z4,ld hf2,leave,results,AP]
    exact zero _ n 9 hrt
 obtain⟨⟨w,st'⟩,h1,v,h2,h3⟩:=goal
 refine⟨v,?_,h3⟩
 rw[h1]
 simp only[M.Iy,Bd,CJ,h2]
end Go.Am
