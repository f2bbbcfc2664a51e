/- A part of tablesStay. -/
import Derived.Test.YthnghmpbgomacaaGreatDoorD
import Derived.KernelRfl
namespace Go.Am
open Go
def below(x n:Int):Int:=if n<1 then 0 else if x.tmod n<0 then x.tmod n+n else x.tmod n
theorem jw{x n:Int}(h:1<=n):0<=below x n/\below x n<n:=by
 have c:=Sz x (b:=n) (by omega);have a:-n<x.tmod n:=by have:=Int.lt_tmod_of_pos x (b:=n) (by omega);omega
 unfold below;rw[AJ (by omega)];split<;>omega
def TR(n:Int):Prop:=-9223372036854775808<=n/\n<9223372036854775808
theorem WT{k:Nat}{x n:Int}{b:St}(c:TR n):Ab E (k+1) 44 [.int .i64 x,.int .i64 n] b=.ret (.int .i64 (below x n),b):=by
 rw[Av (fn:=C.f44) rfl rfl rfl,Ap (by simp)];unfold TR at c;by_cases h1:n<1
 ·simp[C.f44,h1,below,Al,results,Af]
 ·have a:n≠0:=by omega
  have e:x.tmod n<n:=Sz x (by omega);have d:-n<x.tmod n:=Int.lt_tmod_of_pos x (by omega);by_cases h2:x.tmod n<0
  ·simp[C.f44,h1,a,h2,below,Al,results,Af,wrap64 (n:=x.tmod n+n) (by omega) (by omega)]
  ·simp[C.f44,h1,a,h2,below,Al,results,Af]
structure GI (v:AV)(zs:List Int):Prop where
 sl:Co v 1 (zs.map (AV.int .i64))
def Br(zs:List Int)(a n:Int):Int:=
 if zs=[] then below (IntKind.i64.wrap (a*7919)) n else
  below (IntKind.i64.wrap (below (zs.getD ((a-1).tmod zs.length).toNat 0) 1073741824+IntKind.i64.wrap (IntKind.i64.wrap ((a-1).tdiv zs.length)*IntKind.i64.wrap (7919+(a-1).tmod zs.length)))) n
theorem IG{zs:List Int}{a n:Int}(h:1<=n):0<=Br zs a n/\Br zs a n<n:=by unfold Br;split<;>exact jw h
structure RO (st:St)(o:Nat)(v:AV)(a:Int):Prop where
 at_:AA st.h o=some (.cells 25 2 [v,.int .i64 a] false)
 lo:st.lo<=o
def tick(st:St)(o:Nat)(v:AV)(a:Int):St:={ st with h:=Ah st.h o (.cells 25 2 [v,.int .i64 a] false) }
theorem Od{k o:Nat}{st:St}{v:AV}{zs:List Int}{a n:Int}(q:RO st o v a)(t:GI v zs)(J:0<=a/\a<1000000000)(z:TR n) :
 Ab E (k+2) 17 [.AL o 0,.int .i64 n] st=.ret (.int .i64 (Br zs (a+1) n),tick st o v (a+1)):=by
 rw[Av (fn:=C.f17) rfl rfl rfl,Ap (by simp)];have s:∀c,c.h=st.h->c.lo=st.lo->BM 1 (.AL o 1) (.int .i64 (a+1)) c=some (.undef,{ c with h:=Ah st.h o (.cells 25 2 [v,.int .i64 (a+1)] false) }):=fun c u A=>by rw[DZ (ty:=25) (sz:=2) (cs:=[v,.int .i64 a]) (ext:=false) (by rw[u];exact q.at_) (by rw[A];exact q.lo) (by simp) rfl rfl,u];rfl
 have D:=q.at_;have d:∀b,AA (Ah st.h o (.cells 25 2 [v,.int .i64 b] false)) o=some (.cells 25 2 [v,.int .i64 b] false):=fun b=>by rw[Ag q.at_];simp
 have m:∀h x y,AA h o=some (.cells 25 2 [x,y] false)->AQ h (.AL o 0)=some x:=fun h x y e=>by simp[AQ,e]
 have g:∀h x y,AA h o=some (.cells 25 2 [x,y] false)->AQ h (.AL o 1)=some y:=fun h x y e=>by simp[AQ,e]
 have B:IntKind.i64.wrap (a+1)=a+1:=wrap64 (by omega) (by omega);have r:IntKind.i64.wrap a=a:=wrap64 (by omega) (by omega);simp[C.f17,g _ _ _ D,B,s,m _ _ _ (d _),g _ _ _ (d _),t.sl.len];by_cases hz:zs=[]
 ·subst hz;simp[WT z,Br,tick,Al,results,Af]
 ·have l:(zs.length:Int)≠0:=by simpa using hz
  have f:zs.length≠0:=by simpa using hz
  have w:0<zs.length:=by omega
  have I:0<=a.tmod zs.length:=Int.tmod_nonneg _ (by omega);have F:a.tmod zs.length<zs.length:=Sz _ (by omega);obtain⟨i,H⟩:∃i:Nat,a.tmod zs.length=i:=⟨(a.tmod zs.length).toNat,by omega⟩;have p:i<zs.length:=by omega
  have j:∀c,AY 1 v (.int .i64 (i:Int)) c=some (.CB [.int .i64 zs[i]],c):=fun c=>by rw[t.sl.idx (by simpa using p)];simp[AV.cells]
  simp[Hy l,hz,f,r,H,j,m _ _ _ (d _),g _ _ _ (d _),t.sl.len,WT (show TR 1073741824 by unfold TR;omega),WT z,Br,tick,Al,results,Af,p]
section
variable {k:Nat}{st:St}{o:Nat}{v:AV}{zs:List Int}{a n:Int}
theorem rz(b:RO st o v a)(d:GI v zs)(e:0<=a/\a<1000000000){l u:Int}(g:0<=l)(i:l<=u)(j:u<1000000000) :
 Ab E (k+3) 41 [.AL o 0,.int .i64 l,.int .i64 u] st=.ret (.int .i64 (l+Br zs (a+1) (u-l+1)),tick st o v (a+1)):=by
 rw[Av (fn:=C.f41) rfl rfl rfl,Ap (by simp)];have f:¬u<l:=by omega
 have c:TR (u-l+1):=by unfold TR;omega
 have h:=IG (zs:=zs) (a:=a+1) (n:=u-l+1) (by omega);simp[C.f41,f,wrap64 (n:=u-l) (by omega) (by omega),wrap64 (n:=u-l+1) (by omega) (by omega),Od b d e c,wrap64 (n:=l+Br zs (a+1) (u-l+1)) (by omega) (by omega),Al,results,Af]
theorem Yy(b:RO st o v a)(c:GI v zs)(d:0<=a/\a<1000000000)(e:TR n) :
 Ab E (k+3) 16 [.AL o 0,.int .i64 n] st=.ret (.bool (Br zs (a+1) n==0),tick st o v (a+1)):=by
 rw[Av (fn:=C.f16) rfl rfl rfl,Ap (by simp)];simp[C.f16,Od b c d e,Al,results,Af]
structure eZ (h:Aa)(w:AV)(xs:List AV):Prop where
 len:CV w=some xs.length
 at_:∀(i:Nat) (hi:i<xs.length) (st:St),(∀p x,AA h p=some x->p≠o->AA st.h p=some x)->∃p,AY 1 w (.int .i64 i) st=some (p,st)/\AQ st.h p=some xs[i]
theorem fO(t:RO st o v a)(D:GI v zs)(F:0<=a/\a<1000000000){w:AV}{l:List AV}(s:eZ (o:=o) st.h w l)(J:0<l.length)(K:l.length<1000000000)(f:Nat)(fn:DF)(H:codeOf f=some fn)(A:hookOf f=none)(z:fn.pol=.Bo)(e:fn.body=C.f20.body∨fn.body=C.f18.body)(j:fn.results=[.tmp 4]) :
 Ab E (k+3) f [.AL o 0,w] st=.ret (l.getD (Br zs (a+1) l.length).toNat .undef,tick st o v (a+1)):=by
 rw[Av (fn:=fn) A H z,Ap (by simp),j];have I:=IG (zs:=zs) (a:=a+1) (n:=l.length) (by omega);obtain⟨i,u⟩:∃i:Nat,Br zs (a+1) l.length=i:=⟨(Br zs (a+1) l.length).toNat,by omega⟩;have d:i<l.length:=by omega
 obtain⟨p,g,m⟩:=s.at_ i d (tick st o v (a+1)) (fun q x B r=>by simp[tick,Ag t.at_,Aj r,B]);have b:∀c,BZ .slice w c=some (.int .i64 l.length,c):=fun c=>by simp[BZ,s.len]
 have y:=Od (k:=k) t D F (n:=l.length) (by unfold TR;omega);rcases e with h|h
 ·rw[h];simp[C.f20,b,y,u,g,m,Al,results,Af,d]
 ·rw[h];simp[C.f18,b,y,u,g,m,Al,results,Af,d]
end
def HB(st:St):Prop:=∀p x,(p,x)∈st.h->p<st.c
theorem TZ{h:Aa}{c o:Nat}(a:∀p x,(p,x)∈h->p<c)(e:c<=o):AA h o=none:=by
 induction h with
 |nil=>rfl
 |cons q h d=>obtain⟨i,x⟩:=q;rw[AZ,AJ (by have:=a i x (by simp);omega)];exact d fun p y b=>a p y (by simp[b])
theorem yC{h:Aa}{o:Nat}{y:BJ}(a:∀p x,(p,x)∈h->p<o):Qw h o y=some ((o,y)::h):=by
 cases h with
 |nil=>rfl
 |cons q h=>obtain⟨i,x⟩:=q;have:=a i x (by simp);simp[Qw,blt_eq,this]
theorem Bb{h:Aa}{c lo o:Nat}{y:BJ}(a:∀p x,(p,x)∈h->p<o):BA o y ⟨h,c,lo⟩=some ⟨(o,y)::h,c,lo⟩:=by unfold BA;rw[yC a]
theorem NP{h:Aa}{o p:Nat}{y x:BJ}(b:(p,x)∈Ah h o y):∃c,(p,c)∈h:=by
 induction h with
 |nil=>simp[Ah]at b
 |cons q h d=>
  obtain⟨i,z⟩:=q;simp only[Ah,beq_eq,Ad,Aw]at b;by_cases e:i=o
  ·rw[AX e]at b;rcases BK.1 b with a|a
   ·cases a;exact⟨z,by simp[e]⟩
   ·exact⟨x,by simp[a]⟩
  ·rw[AJ e]at b;rcases BK.1 b with a|a
   ·cases a;exact⟨x,by simp⟩
   ·obtain⟨c,f⟩:=d a;exact⟨c,by simp[f]⟩
theorem KS{h:Aa}{o p:Nat}{y x:BJ}(b:(p,x)∈Ah h o y):(p=o/\x=y)∨(p,x)∈h:=by
 induction h with
 |nil=>simp[Ah]at b
 |cons q h d=>
  obtain⟨i,z⟩:=q;simp only[Ah,beq_eq,Ad,Aw]at b;by_cases e:i=o
  ·rw[AX e]at b;rcases BK.1 b with a|a
   ·cases a;exact .inl ⟨e,rfl⟩
   ·exact .inr (by simp[a])
  ·rw[AJ e]at b;rcases BK.1 b with a|a
   ·cases a;exact .inr (by simp)
   ·rcases d a with c|c
    ·exact .inl c
    ·exact .inr (by simp[c])
theorem Oh{h:Aa}{o p:Nat}{x:BJ}(a:(p,x)∈Jv h o):(p,x)∈h:=by
 induction h with
 |nil=>simp[Jv]at a
 |cons q h c=>
  obtain⟨i,z⟩:=q;simp only[Jv,beq_eq,Ad,Aw]at a;by_cases e:i=o
  ·rw[AX e]at a;simp[c a]
  ·rw[AJ e]at a;rcases BK.1 a with b|b
   ·simp[b]
   ·simp[c b]
structure kX (st st':St):Prop where
 c:st.c<=st'.c
 lo:st'.lo=st.lo
 hb:HB st'
 CY:∀p,p<st.c->AA st'.h p=AA st.h p
 mem:∀p x,(p,x)∈st'.h->p<st.c->(p,x)∈st.h
theorem kX.refl{a:St}(b:HB a):kX a a:=⟨Ao _,rfl,b,fun _ _=>rfl,fun _ _ h _=>h⟩
def Az:AV->Option Nat
 |.AU o _ _ _=>some o
 |_=>none
inductive Lp (h:Aa) (ty sz:Nat):AV->List AV->Prop
 |nl:Lp h ty sz .AO []
 |mt (id:Nat) (ext:Bool) (hf:AA h id=some (.cells ty sz [] ext)):Lp h ty sz (.AU id 0 0 (some 0)) []
 |ob (id:Nat) (xs:List AV) (h0:xs≠[]) (hc:∀x∈xs,x.cells.length=sz) (hf:AA h id=some (.cells ty sz (xs.flatMap AV.cells) true)):Lp h ty sz (.AU id 0 xs.length none) xs
theorem Lp.len{h:Aa}{a sz:Nat}{v:AV}{xs:List AV}(H:Lp h a sz v xs):CV v=some xs.length:=by cases H<;>rfl
theorem Lp.heap{h h':Aa}{ty sz:Nat}{v:AV}{a:List AV}(H:Lp h ty sz v a)(e:∀o,Az v=some o->AA h' o=AA h o):Lp h' ty sz v a:=by
 cases H with
 |nl=>exact .nl
 |mt id ext b=>exact .mt id ext ((e id rfl).trans b)
 |ob id a c d b=>exact .ob id a c d ((e id rfl).trans b)
theorem CP{b:Nat}:∀{a:List AV},(∀x∈a,x.cells.length=b)->(a.flatMap AV.cells).length=a.length*b
 |[],_=>by simp
 |x::a,h=>by rw[Cn,Bd,h x (by simp),CP fun y c=>h y (by simp[c])];simp[Il,Nat.add_comm]
theorem Sw{k f ty sz bytes:Nat}{fn:DF}{v:AV}{xs:List AV}{st:St}(B:hookOf f=none)(J:codeOf f=some fn)(n:fn.pol=.Bo)(D:fn.results=[.tmp 2])(j:fn.body=C.S (C.R 0 [C.o 2 .move [.val (.AO)]]) (C.S (C.S (C.R 0 [C.m 3 0,C.o 4 (.eq false .slice) [C.t 3,.val (.AO)]]) (C.C (C.t 4) (C.S (C.R 0 [C.o 2 .move [.val (.AO)]]) .ret) .skip)) (C.S (C.R 2 [C.o 5 (.buildSlice 0 ty sz 0 [] []) [],C.m 6 0,C.o 7 (.append 1 ty sz bytes) [C.t 5,C.t 6],C.m 2 7]) .ret)))(y:0<sz)(u:bytes<=1000)(A:xs.length<=1000)(H:Co v sz xs)(z:∀x∈xs,x.cells.length=sz)(s:HB st) :
 ∃w d,Ab E (k+1) f [v] st=.ret (w,d)/\Lp d.h ty sz w xs/\(∀o,Az w=some o->st.c<=o/\o<d.c)/\kX st d:=by
 rw[Av (fn:=fn) B J n,Ap (by simp),D,j];rcases H.out with⟨rfl,rfl⟩|⟨t,rfl⟩
 ·exact⟨.AO,st,by simp[Uz,kK,Al,results,Af],.nl,fun o h=>by (cases h),kX.refl s⟩
 ·have r:∀p x,(p,x)∈st.h->p<st.c:=s;have g:Nat.blt 0 sz=true:=by rw[blt_eq];simpa using y
  have K:Nat.beq sz 0=false:=by rw[beq_eq];simp;omega
  have I:Nat.beq sz sz=true:=OI sz;have i:sz≠0:=by omega
  by_cases hx0:xs=[]
  ·subst hx0;refine⟨.AU st.c 0 0 (some 0),{ h:=(st.c,.cells ty sz [] false)::st.h,c:=st.c+2,lo:=st.lo },?_,.mt _ false (by simp[AZ]),fun o h=>(by cases h;simp),⟨by simp,rfl,?_,?_,?_⟩⟩
   ·simp[Uz,kK,BC,g,Bp,beq_eq,Bb r,Bq,lenOf,BS,ble_eq,CX,i,Al,results,Af]
   ·intro p x e;rcases BK.1 e with a|a
    ·cases a;simp
    ·have:=s p x a;simp;omega
   ·intro p n;simp[AZ,show ¬st.c=p by omega]
   ·intro p x e n;rcases BK.1 e with a|a
    ·cases a;omega
    ·exact a
  ·have l:xs.length≠0:=by simpa using hx0
   have F:=CP z;have q:∀p x,(p,x)∈(st.c,BJ.cells ty sz [] false)::st.h->p<st.c+1:=fun p x e=>by
    rcases BK.1 e with a|a
    ·cases a;omega
    ·have:=s p x a;omega
   have b:xs.length*bytes<=room/\xs.length<=room:=by have:=QO A u;unfold room;constructor<;>omega
   refine⟨.AU (st.c+1) 0 xs.length none,{ h:=(st.c+1,.cells ty sz (xs.flatMap AV.cells) true)::(st.c,.cells ty sz [] false)::st.h,c:=st.c+2,lo:=st.lo },?_,.ob _ xs hx0 z (by simp[AZ]),fun o h=>(by cases h;simp),⟨by simp,rfl,?_,?_,?_⟩⟩
   ·simp[Uz,kK,BC,g,Bp,beq_eq,Bb r,Bq,lenOf,BS,ble_eq,CX,i,Al,results,Af,l,GG,AZ,grow,b.1,b.2,Bb q]
   ·intro p x e;rcases BK.1 e with a|a
    ·cases a;simp
    ·have:=q p x a;simp;omega
   ·intro p n;simp[AZ,show ¬st.c=p by omega,show ¬st.c+1=p by omega]
   ·intro p x e n;rcases BK.1 e with a|a
    ·cases a;omega
    ·rcases BK.1 a with a|a
     ·cases a;omega
     ·exact a
theorem UC{k:Nat}{v:AV}{l:List Bz}{st:St}(b:l.length<=1000)(H:Co v 1 (Bf l))(d:HB st) :
 ∃w a,Ab E (k+1) 38 [v] st=.ret (w,a)/\Lp a.h 9 1 w (Bf l)/\(∀o,Az w=some o->st.c<=o/\o<a.c)/\kX st a:=
 Sw (fn:=C.f38) (ty:=9) (sz:=1) (bytes:=16) rfl rfl rfl rfl rfl (by omega) (by omega) (by simpa using b) H (fun x e=>by obtain⟨s,_,rfl⟩:=BP.1 e;rfl) d
theorem Gg.cells{l:List AV}{b:List Dw}(h:Gg l b):∀x∈l,x.cells.length=3:=by
 induction h with
 |nil=>simp
 |cons h _ c=>
  intro x a;rcases BK.1 a with rfl|a
  ·obtain⟨d,rfl,_⟩:=h;rfl
  ·exact c x a
theorem oN{k:Nat}{v:AV}{l:List AV}{b:List Dw}{st:St}(d:l.length<=1000)(H:Co v 3 l)(e:Gg l b)(f:HB st) :
 ∃w a,Ab E (k+1) 39 [v] st=.ret (w,a)/\Lp a.h 63 3 w l/\(∀o,Az w=some o->st.c<=o/\o<a.c)/\kX st a:=
 Sw (fn:=C.f39) (ty:=63) (sz:=3) (bytes:=48) rfl rfl rfl rfl rfl (by omega) (by omega) d H e.cells f
end Go.Am
namespace Go.Am
open Go
 mutual
theorem AV.DU:∀v:AV,AV.beq v v=true
 |.bool b=>by simp[AV.beq]
 |.int k n=>by cases k<;>simp[AV.beq]
 |.str s=>by simp[AV.beq]
 |.DY=>by simp[AV.beq]
 |.AL o a=>by simp[AV.beq]
 |.CB cs=>by simp[AV.beq,AV.KX cs]
 |.AO=>by simp[AV.beq]
 |.list t n a=>by simp[AV.beq,AV.KX a]
 |.AU o a l c=>by simp[AV.beq]
 |.IZ=>by simp[AV.beq]
 |.Cq o=>by simp[AV.beq]
 |.CR a b=>by simp[AV.beq,AV.KX a,AV.KX b]
 |.fn f a b=>by simp[AV.beq,AV.KX a,AV.KX b]
 |.Nc=>by simp[AV.beq]
 |.iface t v=>by simp[AV.beq,AV.DU v]
 |.Ij=>by simp[AV.beq]
 |.agg a=>by simp[AV.beq,AV.KX a]
 |.tuple a=>by simp[AV.beq,AV.KX a]
theorem AV.KX:∀l:List AV,AV.VJ l l=true
 |[]=>by simp[AV.VJ]
 |v::l=>by simp[AV.VJ,AV.DU v,AV.KX l]
end
section
variable {E:Env}{call:Nat->List AV->St->M (AV×St)}{s d q i:Nat}{k:AK}{args:List Ki}{ts:TS}{st:St}{js:List Nat}{p:Na}{l:List (Nat×Dr×List Nat)}
theorem KJ(a:d<65535):Db E call s ((i,⟨some d,none,k,args⟩,js)::l) p ts st=(Kg E call s k (WL ts args) st).bind fun r=>bif Fv s i p r.2 then Db E call s l (bif js.isEmpty then p else (js,k,WL ts args,r.1)::p) (ts.set d r.1) r.2 else .fail:=by
 simp only[Db,MK,wanted,Ba,put,M.bind_assoc,M.JZ];congr 1;funext r;cases js with
 |nil=>rfl
 |cons j js=>
  have:(ts.set d r.1).get d=r.1:=by rw[TS.SG _ _ _ _ a];simp
  simp only[Re,wanted,Ba,List.isEmpty_cons,Bj,this]
theorem MQ:Db E call s ((i,⟨none,none,k,args⟩,js)::l) p ts st=(Kg E call s k (WL ts args) st).bind fun r=>bif Fv s i p r.2 then Db E call s l p ts r.2 else .fail:=by
 simp only[Db,MK,wanted,Ba,put,M.bind_assoc,M.JZ];congr 1;funext r;cases js with
 |nil=>rfl
 |cons j js=>simp only[Re,wanted,Ba]
theorem Cc{s i:Nat}{st:St}:Fv s i [] st=true:=rfl
theorem Ci{s i:Nat}{st:St}{js:List Nat}{k:AK}{l:List AV}{v:AV}{p:Na}:Fv s i ((js,k,l,v)::p) st=((!js.any (Nat.beq i)||(match step s k l st with|some r=>AV.beq v r.1|none=>false))&&Fv s i p st):=rfl
theorem DK{s:Nat}{st:St}{agg:Option Nat}{x:AV}:step s (.load agg) [x] st=Ia st (LB st.h agg x):=rfl
theorem Dx{s a:Nat}{st:St}{x y:AV}:step s (.indexAddr a) [x,y] st=AY a x y st:=rfl
end
theorem Nl{a b c w:AV}:∀{ls:List AV} {i:Nat},(∀x∈ls,x.cells.length=3)->ls[i]? =some (.agg [a,b,c])->(ls.flatMap AV.cells).set (3*i+1) w=(ls.set i (.agg [a,w,c])).flatMap AV.cells
 |[],i,_,h=>by simp at h
 |x::ls,0,d,h=>by simp at h;subst h;simp[AV.cells]
 |x::ls,i+1,d,h=>by have f:=d x (by simp);have g:=Nl (w:=w) (ls:=ls) (i:=i) (fun y e=>d y (by simp[e])) (by simpa using h);rw[Cn,QZ _ _ (by omega),f,show 3*(i+1)+1-3=3*i+1 by omega,g];simp
theorem KT{a b c:AV}:∀{ls:List AV} {i:Nat},(∀x∈ls,x.cells.length=3)->ls[i]? =some (.agg [a,b,c])->(ls.flatMap AV.cells)[3*i]? =some a/\(ls.flatMap AV.cells)[3*i+1]? =some b/\(ls.flatMap AV.cells)[3*i+2]? =some c
 |[],i,_,h=>by simp at h
 |x::ls,0,d,h=>by simp at h;subst h;simp[AV.cells]
 |x::ls,i+1,d,h=>by have f:=d x (by simp);have g:=KT (ls:=ls) (i:=i) (fun y e=>d y (by simp[e])) (by simpa using h);rw[Cn,NV (by omega),NV (by omega),NV (by omega),f,show 3*(i+1)-3=3*i by omega,show 3*(i+1)+1-3=3*i+1 by omega,show 3*(i+1)+2-3=3*i+2 by omega];exact g
end Go.Am
namespace Go.Am
open Go
def VU(h:Aa)(v:AV)(r:Dw):Prop:=∃w,v=.agg [.str r.left,w,.int .i64 r.level]/\Lp h 9 1 w (Bf r.right)
def Kt:AV->Option Nat
 |.agg [_,w,_]=>Az w
 |_=>none
theorem VU.heap{h h':Aa}{v:AV}{r:Dw}(H:VU h v r)(e:∀o,Kt v=some o->AA h' o=AA h o):VU h' v r:=by obtain⟨w,b,a⟩:=H;subst b;exact⟨w,rfl,a.heap e⟩
theorem VU.three{h:Aa}{v:AV}{r:Dw}(H:VU h v r):v.cells.length=3:=by obtain⟨w,rfl,_⟩:=H;rfl
structure qw (st0:St)(Dc:Nat)(rs:List Dw)(vs0:List AV)(i:Nat)(ls:List AV)(st:St):Prop where
 hb:HB st
 c:st0.c<=st.c
 lo:st.lo=st0.lo
 ln:ls.length=rs.length
 AP:AA st.h Dc=some (.cells 63 3 (ls.flatMap AV.cells) true)
 three:∀x∈ls,x.cells.length=3
 done:∀j,j<i->∀(hl:j<ls.length) (hr:j<rs.length),VU st.h ls[j] rs[j]/\∀o,Kt ls[j]=some o->st0.c<=o/\o<st.c
 todo:∀j,i<=j->∀(hl:j<ls.length) (hv:j<vs0.length),ls[j]=vs0[j]
 inj:∀(j k:Nat) (hj:j<ls.length) (hk:k<ls.length) (o:Nat),j<i->k<i->Kt ls[j]=some o->Kt ls[k]=some o->j=k
 CY:∀p,p<st0.c->p≠Dc->AA st.h p=AA st0.h p
 mem:∀p x,(p,x)∈st.h->p<st0.c->p≠Dc->(p,x)∈st0.h
theorem XO{st:St}{a n i d:Nat}{c:List AV}{ext:Bool}(b:AA st.h a=some (.cells d 3 c ext))(e:i<n):AY 3 (.AU a 0 n none) (.int .i64 (i:Int)) st=some (.AL a (3*i),st):=by simp[AY,Bg,b,blt_eq,e,Nat.mul_comm]
theorem AR{h:Aa}{o off d c:Nat}{a:List AV}{ext:Bool}(b:AA h o=some (.cells d c a ext)):AQ h (.AL o off)=a[off]?:=by simp[AQ,b]
theorem Lp.one{h:Aa}{ty sz:Nat}{v:AV}{a:List AV}(H:Lp h ty sz v a):v.isTuple=false/\v.cells=[v]:=by cases H<;>exact⟨rfl,rfl⟩
theorem jW{k gid Dc:Nat}{st0:St}{kv:AV}{s:Bz}{rs:List Dw}{vs0:List AV}(P:gid<st0.c)(b2:Dc<st0.c)(b6:gid≠Dc)(a6:st0.lo<=Dc)(hg:AA st0.h gid=some (.cells 29 3 [kv,.str s,.AU Dc 0 rs.length none] false))(hv:Gg vs0 rs)(b8:rs.length<=100)(a8:∀r∈rs,r.right.length<=1000)(b4:AA st0.h Dc=some (.cells 63 3 (vs0.flatMap AV.cells) true))(b0:HB st0)(q:TS)(h1:q.get 1=.AL gid 0)(h2:q.get 2=.AL (gid+1) 0)(u:q.get 14=.int .i64 rs.length)(y:q.get 15=.int .i64 (0:Nat)) :
 (Dm (Bc E (Ab E (k+1)) C.f14L0) E.k q st0).to fun r=>r.1=.exit 0/\r.2.1.get 1=.AL gid 0/\r.2.1.get 2=.AL (gid+1) 0/\∃b,qw st0 Dc rs vs0 rs.length b r.2.2:=by
 refine Cy (fun (i:Nat) q st=>i<=rs.length/\q.get 1=.AL gid 0/\q.get 2=.AL (gid+1) 0/\q.get 14=.int .i64 rs.length/\q.get 15=.int .i64 (i:Nat)/\∃b,qw st0 Dc rs vs0 i b st)
  (fun i=>rs.length-i) ?_ _ 0 _ _ ?_ ?_
 ·rintro i q st ⟨hi,h1,h2,u,y,b,H⟩;by_cases Bi:i<rs.length
  ·have L:i<b.length:=by rw[H.ln];exact Bi
   have b7:i<vs0.length:=by rw[hv.length];exact Bi
   obtain⟨_,rv,a3,a9⟩:=hv.get i Bi;have W:b[i]=.agg [.str rs[i].left,rv,.int .i64 rs[i].level]:=by rw[H.todo i (Ao _) L b7,a3]
   have R:=KT H.three (show b[i]? =some (.agg [.str rs[i].left,rv,.int .i64 rs[i].level]) by rw[Bu L,W]);have U:AA st.h gid=some (.cells 29 3 [kv,.str s,.AU Dc 0 rs.length none] false):=by rw[H.CY gid P b6];exact hg
   obtain⟨w,d,a0,hm,t,a⟩:=UC (k:=k) (st:=⟨st.h,st.c,st.lo⟩) (a8 rs[i] (BH Bi)) a9 H.hb;have a7:(⟨st.h,st.c,st.lo⟩:St)=st:=rfl;rw[a7]at a0 t a;have T:AA d.h gid=some (.cells 29 3 [kv,.str s,.AU Dc 0 rs.length none] false):=by rw[a.CY gid (Bt P H.c)];exact U
   have f:AA d.h Dc=some (.cells 63 3 (b.flatMap AV.cells) true):=by rw[a.CY Dc (Bt b2 H.c)];exact H.AP
   have Z:w.isTuple=false/\w.cells=[w]:=hm.one;have D:(b.flatMap AV.cells).length=b.length*3:=CP H.three;have A:=DZ (st:=d) (off:=3*i+1) (v:=w) f (by rw[a.lo,H.lo];exact a6) (by rw[D];omega) Z.1 Z.2;rw[Nl H.three (show b[i]? =some (.agg [.str rs[i].left,rv,.int .i64 rs[i].level]) by rw[Bu L,W])]at A;have l:∀h,AA h gid=some (.cells 29 3 [kv,.str s,.AU Dc 0 rs.length none] false)->AQ h (.AL gid 2)=some (.AU Dc 0 rs.length none):=fun h e=>by rw[AR e];rfl
   simp[C.f14L0,h1,u,y,Bi,KJ,MQ,Cc,Ci,DK,beq_eq,l _ U,l _ T,XO H.AP Bi,AR H.AP,R.2.1,a0,AV.DU,XO f Bi,A,wi i];refine⟨i+1,by omega,by omega,h2,by simp,b.set i (.agg [.str rs[i].left,w,.int .i64 rs[i].level]),?_⟩;have I:∀p,p≠Dc->AA (Ah d.h Dc (.cells 63 3 ((b.set i (.agg [.str rs[i].left,w,.int .i64 rs[i].level])).flatMap AV.cells) true)) p=AA d.h p:=fun p J=>by rw[Ag f,AJ (Aj J)]
   refine⟨?_,DV H.c a.c,by rw[←H.lo,←a.lo],by simp[H.ln],by simp[Ag f],?_,?_,?_,?_,?_,?_⟩
   ·intro p x a5;obtain⟨x',b1⟩:=NP a5;exact a.hb p x' b1
   ·intro x hx;rcases Kr hx with h|h
    ·exact H.three x h
    ·subst h;rfl
   ·intro j Q hl hr;by_cases e:j=i
    ·subst e;have:(b.set j (.agg [.str rs[j].left,w,.int .i64 rs[j].level]))[j]=.agg [.str rs[j].left,w,.int .i64 rs[j].level]:=by simp
     rw[this];refine⟨⟨w,rfl,hm.heap fun o z=>?_⟩,fun o z=>?_⟩
     ·have:=t o z;exact I o (by have:=H.c;omega)
     ·have:=t o z;have:=H.c;exact (show st0.c<=o/\o<d.c from⟨by omega,by omega⟩)
    ·have K:j<b.length:=by simpa using hl
     have:(b.set i (.agg [.str rs[i].left,w,.int .i64 rs[i].level]))[j]=b[j]:=by rw[ML (Aj e)]
     rw[this];obtain⟨d1,d2⟩:=H.done j (by omega) K hr;refine⟨d1.heap fun o z=>?_,fun o z=>⟨(d2 o z).1,Bt (d2 o z).2 a.c⟩⟩;have:=d2 o z;rw[I o (by omega),a.CY o this.2]
   ·intro j Q hl b5;have e:j≠i:=by omega
    have K:j<b.length:=by simpa using hl
    rw[ML (Aj e)];exact H.todo j (by omega) K b5
   ·intro j V Q a4 o c0 b9 N O;have Y:j<b.length:=by simpa using Q
    have S:V<b.length:=by simpa using a4
    have B:∀(m:Nat) (F:m<b.length),m<i->Kt b[m]=some o->o<st.c:=fun m F b3 e=>((H.done m b3 F (by rw[←H.ln];exact F)).2 o e).2;by_cases a1:j=i
    ·by_cases a2:V=i
     ·omega
     ·subst a1;rw[QY]at N;rw[ML (Aj a2)]at O;have h3:=B V S (by omega) O;have h4:=t o N;omega
    ·by_cases a2:V=i
     ·subst a2;rw[QY]at O;rw[ML (Aj a1)]at N;have h3:=B j Y (by omega) N;have h4:=t o O;omega
     ·rw[ML (Aj a1)]at N;rw[ML (Aj a2)]at O;exact H.inj j V Y S o (by omega) (by omega) N O
   ·intro p J g;show AA (Ah d.h Dc _) p=_;rw[I p g,a.CY p (Bt J H.c),H.CY p J g]
   ·intro p x hm J g;rcases KS hm with h|h
    ·exact absurd h.1 g
    ·exact H.mem p x (a.mem p x h (Bt J H.c)) J g
  ·simp[C.f14L0,h1,h2,u,y,Bi];have:i=rs.length:=by omega
   subst this;exact⟨b,H⟩
 ·exact FX (by show rs.length-0<1000000;omega)
 ·refine⟨by omega,h1,h2,u,y,vs0,⟨b0,Ao _,rfl,hv.length,b4,hv.cells,fun j Q=>by omega,fun _ _ _ _=>rfl,fun j k _ _ o Q=>by omega,fun _ _ _=>rfl,fun _ _ h _ _=>h⟩⟩
theorem KA{st:St}{o ty sz n:Nat}{cs vs:List AV}{ext:Bool}(a:AA st.h o=some (.cells ty sz cs ext))(b:st.lo<=o)(d:vs.length=n)(i:cs.length=n) :
 BM n (.AL o 0) (.agg vs) st=some (.undef,{ st with h:=Ah st.h o (.cells ty sz vs ext) }):=by
 have g:Nat.blt o st.lo=false:=by rw[blt_eq];simp;omega
 have e:Nat.beq vs.length n=true:=by rw[beq_eq];simpa using d
 have c:Nat.ble vs.length cs.length=true:=Dv (by omega);have f:Bl cs 0 vs=vs:=by unfold Bl;rw[List.take_zero,JJ,Dz,OQ (by omega),Fh]
 simp[BM,AV.isTuple,AV.cells,e,CO,g,a,c,f,Fs]
theorem FI{h:Aa}{o n d c:Nat}{a:List AV}{ext:Bool}(b:AA h o=some (.cells d c a ext))(e:a.length=n):Ak h (.AL o 0) n=some a:=by have:Nat.ble a.length a.length=true:=Dv (by omega);subst e;simp[Ak,b,this]
structure kU (c0:Nat)(st:St)(g:Ac)(kv:AV)(Dc:Nat)(ls:List AV):Prop where
 Ae:Lp st.h 9 1 kv (Bf g.Ae)
 kid:∀o,Az kv=some o->c0<=o/\o<Dc
 Rc:c0<=Dc/\Dc<st.c
 AP:AA st.h Dc=some (.cells 63 3 (ls.flatMap AV.cells) true)
 ln:ls.length=g.AP.length
 each:∀(j:Nat) (hl:j<ls.length) (hr:j<g.AP.length),VU st.h ls[j] g.AP[j]/\∀o,Kt ls[j]=some o->Dc<o/\o<st.c
 inj:∀(j k:Nat) (hj:j<ls.length) (hk:k<ls.length) (o:Nat),Kt ls[j]=some o->Kt ls[k]=some o->j=k
 three:∀x∈ls,x.cells.length=3
theorem oH{k:Nat}{v:AV}{g:Ac}{st:St}(hg:GD v g)(hs:g.Small)(h0:0<g.AP.length)(hb:HB st)(b1:st.lo<=st.c) :
 ∃kv Dc J F,Ab E (k+2) 14 [v] st=.ret (.agg [kv,.str g.Ai,.AU Dc 0 J.length none],F)/\kU st.c F g kv Dc J/\kX st F:=by
 obtain⟨u,m,vs0,rfl,hk,hr,I⟩:=hg;rw[Av (fn:=C.f14) rfl rfl rfl,Ap (by simp)];have hm:=hs.many;have c4:=hs.Ae;let K:Aa:=(st.c+1,.cells 29 3 [.AO,.str [],.AO] false)::(st.c,.cells 29 3 [u,.str g.Ai,m] false)::st.h;let A:St:=⟨K,st.c+2,st.lo⟩;have b4:HB A:=fun p x D=>by
  show p<st.c+2;rcases BK.1 D with h|h
  ·cases h;omega
  ·rcases BK.1 h with h|h
   ·cases h;omega
   ·have:=hb p x h;omega
 have b3:∀p,p<st.c->AA K p=AA st.h p:=fun p N=>by simp[K,AZ,show ¬st.c+1=p by omega,show ¬st.c=p by omega]
 have a2:AA K st.c=some (.cells 29 3 [u,.str g.Ai,m] false):=by simp[K,AZ]
 have b5:AA K (st.c+1)=some (.cells 29 3 [.AO,.str [],.AO] false):=by simp[K,AZ]
 obtain⟨kv,i,c1,m1,i1,S⟩:=UC (k:=k) (st:=A) (show g.Ae.length<=1000 by omega) hk b4;have U:AA i.h st.c=some (.cells 29 3 [u,.str g.Ai,m] false):=by rw[S.CY _ (show st.c<st.c+2 by omega)];exact a2
 have b9:AA i.h (st.c+1)=some (.cells 29 3 [.AO,.str [],.AO] false):=by rw[S.CY _ (show st.c+1<st.c+2 by omega)];exact b5
 have R:i.lo<=st.c:=by rw[S.lo];exact b1
 have s1:=DZ (st:=i) (off:=0) (v:=kv) U R (by simp) m1.one.1 m1.one.2;let t:St:={ i with h:=Ah i.h st.c (.cells 29 3 [kv,.str g.Ai,m] false) };have a8:AA t.h st.c=some (.cells 29 3 [kv,.str g.Ai,m] false):=by simp[t,Ag U]
 have V:∀p,p≠st.c->AA t.h p=AA i.h p:=fun p N=>by simp[t,Ag U,Aj N]
 have b6:HB t:=fun p x D=>by obtain⟨x',h'⟩:=NP D;exact S.hb p x' h'
 obtain⟨rv,f,c3,m3,i3,P⟩:=oN (k:=k) (st:=t) (show vs0.length<=1000 by rw[I.length];omega) hr I b6;have c7:t.c=i.c:=rfl;have c5:A.c=st.c+2:=rfl;have c9:st.c+2<=i.c:=S.c;have T:AA f.h st.c=some (.cells 29 3 [kv,.str g.Ai,m] false):=by rw[P.CY _ (by omega)];exact a8
 have a6:f.lo<=st.c:=by rw[P.lo];exact R
 obtain⟨Dc,rfl,b7⟩:∃Dc,rv=.AU Dc 0 vs0.length none/\AA f.h Dc=some (.cells 63 3 (vs0.flatMap AV.cells) true):=by
  have a1:vs0≠[]:=fun e=>by have:=I.length;rw[e]at this;simp at this;omega
  generalize Z:vs0=xs at m3;cases m3 with
  |nl=>exact absurd Z a1
  |mt=>exact absurd Z a1
  |ob id _ _ _ hf=>subst Z;exact⟨id,rfl,hf⟩
 have a5:=i3 Dc rfl;have s3:=DZ (st:=f) (off:=2) (v:=.AU Dc 0 vs0.length none) T a6 (by simp) rfl rfl;let q:St:={ f with h:=Ah f.h st.c (.cells 29 3 [kv,.str g.Ai,.AU Dc 0 vs0.length none] false) };have Y:AA q.h st.c=some (.cells 29 3 [kv,.str g.Ai,.AU Dc 0 vs0.length none] false):=by simp[q,Ag T]
 have L:∀p,p≠st.c->AA q.h p=AA f.h p:=fun p N=>by simp[q,Ag T,Aj N]
 have c0:HB q:=fun p x D=>by obtain⟨x',h'⟩:=NP D;exact P.hb p x' h'
 have c8:=P.c;have B:=I.length;have w:st.c≠Dc:=by omega
 have loop:=fun ts a b c d=>jW (k:=k) (st0:=q) (gid:=st.c) (Dc:=Dc) (kv:=kv) (s:=g.Ai) (rs:=g.AP) (vs0:=vs0) (by show st.c<f.c;omega) a5.2 w (by show f.lo<=Dc;omega)
  (by rw[←B];exact Y) I (by omega) (fun r hr=>by have:=(hs.AP r hr).right;omega) (by rw[L _ (Aj w)];exact b7) c0 ts a b c d
 have b8:∀p x,(p,x)∈st.h->p<st.c:=hb;have b2:∀p x,(p,x)∈(st.c,BJ.cells 29 3 [u,.str g.Ai,m] false)::st.h->p<st.c+1:=fun p x D=>by
  rcases BK.1 D with h|h
  ·cases h;omega
  ·have:=hb p x h;omega
 have main:((Bc E (Ab E (k+1)) C.f14.body (TS.FK [.agg [u,.str g.Ai,m]] 0 .nil) st).bind (Al C.f14.results)).to fun r=>
  ∃J,r.1=.agg [kv,.str g.Ai,.AU Dc 0 J.length none]/\kU st.c r.2 g kv Dc J/\kX st r.2:=by
  have rk:∀h x y z,AA h st.c=some (.cells 29 3 [x,y,z] false)->AQ h (.AL st.c 0)=some x:=fun h x y z e=>by rw[AR e];rfl
  have rr:∀h x y z,AA h st.c=some (.cells 29 3 [x,y,z] false)->AQ h (.AL st.c 2)=some z:=fun h x y z e=>by rw[AR e];rfl
  have e1:(⟨K,st.c+2,st.lo⟩:St)=A:=rfl;have a3:(st.c+1,BJ.cells 29 3 [.AO,.str [],.AO] false)::(st.c,BJ.cells 29 3 [u,.str g.Ai,m] false)::st.h=K:=rfl;have e2:(⟨i.h,i.c,i.lo⟩:St)=i:=rfl;have f1:AQ A.h (.AL st.c 0)=some u:=rk _ _ _ _ a2;have e3:(⟨Ah i.h st.c (.cells 29 3 [kv,.str g.Ai,m] false),i.c,i.lo⟩:St)=t:=rfl;have f2:AQ t.h (.AL st.c 2)=some m:=rr _ _ _ _ a8;have W:(⟨Ah f.h st.c (.cells 29 3 [kv,.str g.Ai,.AU Dc 0 vs0.length none] false),f.c,f.lo⟩:St)=q:=rfl;have f4:AQ q.h (.AL st.c 2)=some (.AU Dc 0 vs0.length none):=rr _ _ _ _ Y;simp only[Jh]at s1;simp only[Jg,Jh]at s3;clear_value A t q K;simp[C.f14,Ls,AV.isTuple,AV.cells,Bb b8,Bb b2,a3,e1,f1,c1,s1,e3,f2,c3,s3,W,f4,BZ,CV];refine M.BG (loop _ (by simp) (by simp) (by simp[B]) (by simp)) fun r hr=>?_;obtain⟨e,ts,l⟩:=r;obtain⟨rfl,t1,t2,J,H⟩:=hr;simp only at t1 t2 H;have c2:AA l.h st.c=some (.cells 29 3 [kv,.str g.Ai,.AU Dc 0 vs0.length none] false):=by rw[H.CY _ (by rw[←W];show st.c<f.c;omega) w];exact Y
  have a0:AA l.h (st.c+1)=some (.cells 29 3 [.AO,.str [],.AO] false):=by rw[H.CY _ (by rw[←W];show st.c+1<f.c;omega) (by omega),L _ (by omega),P.CY _ (by omega),V _ (by omega)];exact b9
  have a7:l.lo<=st.c+1:=by rw[H.lo,←W];show f.lo<=_;omega
  have sq:=KA (st:=l) (n:=3) (vs:=[kv,.str g.Ai,.AU Dc 0 vs0.length none]) a0 a7 rfl rfl;simp[t1,t2,FI (n:=3) c2 rfl,sq,Al,results,Af,FI (n:=3) (show AA (Ah l.h (st.c+1) (.cells 29 3 [kv,.str g.Ai,.AU Dc 0 vs0.length none] false)) (st.c+1)=some (.cells 29 3 [kv,.str g.Ai,.AU Dc 0 vs0.length none] false) by simp[Ag a0]) rfl];have a9:J.length=vs0.length:=by rw[H.ln,B]
  have c6:q.c=f.c:=by rw[←W]
  have O:∀p,p≠st.c+1->AA (Ah l.h (st.c+1) (.cells 29 3 [kv,.str g.Ai,.AU Dc 0 vs0.length none] false)) p=AA l.h p:=fun p N=>by rw[Ag a0,AJ (Aj N)]
  refine⟨J,by rw[a9],⟨m1.heap fun o Q=>?_,fun o Q=>⟨by have:=(i1 o Q).1;omega,by have:=(i1 o Q).2;omega⟩,⟨by omega,by show Dc<l.c;have:=H.c;omega⟩,?_,H.ln,fun j hl hr=>?_,fun j k' hj a4 o=>H.inj j k' hj a4 o (by rw[←H.ln];exact hj) (by rw[←H.ln];exact a4),H.three⟩,⟨by show st.c<=l.c;have:=H.c;omega,by show l.lo=st.lo;rw[H.lo,←W];show f.lo=_;rw[P.lo,←e3];show i.lo=_;rw[S.lo,←e1],fun p x D=>?_,fun p N=>?_,fun p x D N=>?_⟩⟩
  ·have:=i1 o Q;show AA (Ah l.h (st.c+1) _) o=_;rw[O o (by omega),H.CY o (by omega) (by omega),L o (by omega),P.CY o (by omega),V o (by omega)]
  ·show AA (Ah l.h (st.c+1) _) Dc=_;rw[O Dc (by omega)];exact H.AP
  ·obtain⟨d1,d2⟩:=H.done j (by omega) hl hr;refine⟨d1.heap fun o Q=>?_,fun o Q=>?_⟩
   ·have:=d2 o Q;show AA (Ah l.h (st.c+1) _) o=_;rw[O o (by omega)]
   ·have:=d2 o Q;exact (show Dc<o/\o<l.c from⟨by omega,by omega⟩)
  ·obtain⟨x',h'⟩:=NP D;exact H.hb p x' h'
  ·show AA (Ah l.h (st.c+1) _) p=_;rw[O p (by omega),H.CY p (by omega) (by omega),L p (by omega),P.CY p (by omega),V p (by omega),S.CY p (by omega),←e1];exact b3 p N
  ·rcases KS D with h|h
   ·omega
   have h:=H.mem p x h (by omega) (by omega);rw[←W]at h;rcases KS h with h|h
   ·omega
   have h:=P.mem p x h (by omega);rw[←e3]at h;rcases KS h with h|h
   ·omega
   have h:=S.mem p x h (by omega);rw[←e1]at h;rw[←a3]at h;rcases BK.1 h with h|h
   ·cases h;omega
   ·rcases BK.1 h with h|h
    ·cases h;omega
    ·exact h
 obtain⟨⟨v',F⟩,b0,J,rfl,h2,h3⟩:=main;exact⟨kv,Dc,J,F,b0,h2,h3⟩
theorem FH{c n:Nat}{h:Aa}{v:AV}(a:v.CY c=true):Ce c h (n+1) v=some v:=by cases v<;>(unfold Ce;simp[a])
theorem Hu{c n:Nat}{h:Aa}:∀{l:List AV},AV.Dq c l=true->DD (Ce c h (n+1)) l=some l
 |[],_=>rfl
 |v::l,a=>by simp only[AV.Dq,Aq]at a;simp[DD,FH a.1,Hu a.2]
theorem LW(c:Nat)(l:List Bz):AV.Dq c (Bf l)=true:=by
 induction l with
 |nil=>rfl
 |cons s l a=>simpa [Bf,AV.Dq,AV.CY]using a
theorem Wp{f:AV->Option AV}:∀{a b c d:List AV},DD f a=some c->DD f b=some d->DD f (a++b)=some (c++d)
 |[],b,c,d,h,k=>by cases h;exact k
 |v::l,b,c,d,h,k=>by
  simp only[DD]at h;split at h
  ·rename_i i e;split at h
   ·rename_i j g;cases h;simp[DD,e,Wp g k]
   ·cases h
  ·cases h
theorem lV{c n:Nat}{h:Aa}{l a:List AV}(d:AV.Dq c l=true)(b:DD (Ce c h n) l=some a)(e:0<n):a=l:=by obtain⟨m,rfl⟩:∃m,n=m+1:=⟨n-1,by omega⟩;rw[Hu d]at b;exact (JK b).symm
theorem zq{c n:Nat}{h:Aa}{b a:List AV}(d:DD (Ce c h n) b=some a)(e:0<n):Ce c h (n+1) (.agg b)=some (.agg a):=by
 unfold Ce;cases ho:(AV.agg b).CY c with
 |true=>have:=lV (by simpa [AV.CY]using ho) d e;rw[this];rfl
 |false=>simp[d]
def ZZ(c:Nat)(h:Aa)(w:AV)(l:List Bz):Prop:=(w=.AO/\l=[])∨∃id cap ty ext,w=.AU id 0 l.length cap/\c<id/\AA h id=some (.cells ty 1 (Bf l) ext)
theorem ZZ.frame{c:Nat}{h a:Aa}{w:AV}{l:List Bz}(H:ZZ c h w l)(d:∀p,c<p->AA a p=AA h p):ZZ c a w l:=by
 rcases H with f|⟨id,cap,i,ext,e,b,g⟩
 ·exact .inl f
 ·exact .inr ⟨id,cap,i,ext,e,b,(d id b).trans g⟩
theorem Jw:∀(l:List AV),rows 1 l.length l=l
 |[]=>rfl
 |v::l=>by simp[rows,Jw l]
theorem Gh{c n o a len b l:Nat}{h:Aa}{cap:Option Nat}{d cs':List AV}{ext:Bool}(m:c<=o)(j:AA h o=some (.cells l b d ext))(e:0<b)(k:a+len*b<=d.length)(g:DD (Ce c h n) ((d.drop a).take (len*b))=some cs') :
 Ce c h (n+1) (.AU o a len cap)=some (.list (match cap with|some c=>Nat.beq c len|none=>false) b (rows b len cs')):=by
 unfold Ce;have i:(AV.AU o a len cap).CY c=false:=by simp[AV.CY,blt_eq];omega
 have f:(Nat.blt 0 b&&Nat.ble (a+len*b) d.length)=true:=by rw[blt_eq,ble_eq];simp[e,k]
 simp only[i,j,f,g,Ba,Bj];cases cap<;>rfl
theorem Mc(l:List Bz):(Bf l).flatMap AV.cells=Bf l:=by
 unfold Bf;induction l with
 |nil=>rfl
 |cons s l a=>simpa [AV.cells]using a
theorem ZZ.of{c:Nat}{h:Aa}{w:AV}{l:List Bz}(H:Lp h 9 1 w (Bf l))(f:∀o,Az w=some o->c<o):ZZ c h w l:=by
 generalize a:Bf l=e at H;have d:l.length=e.length:=by rw[←a];simp
 cases H with
 |nl=>exact .inl ⟨rfl,by simpa using d⟩
 |mt id ext b=>exact .inr ⟨id,_,9,ext,by rw[d];rfl,f id rfl,by rw[a];exact b⟩
 |ob id e g i b=>exact .inr ⟨id,_,9,true,by rw[d],f id rfl,by rw[a,b,←a,Mc]⟩
theorem ZZ.Ce{c:Nat}{h:Aa}{w:AV}{l:List Bz}(H:ZZ c h w l):∃w',Co w' 1 (Bf l)/\∀n,2<=n->Ce c h n w=some w':=by
 rcases H with⟨rfl,rfl⟩|⟨id,cap,g,ext,rfl,f,b⟩
 ·exact⟨.AO,⟨.inl ⟨rfl,rfl⟩⟩,fun n e=>by obtain⟨m,rfl⟩:∃m,n=m+1:=⟨n-1,by omega⟩;exact FH rfl⟩
 ·refine⟨.list (match cap with|some c=>Nat.beq c l.length|none=>false) 1 (Bf l),⟨.inr ⟨_,rfl⟩⟩,fun n e=>?_⟩;obtain⟨m,rfl⟩:∃m,n=m+2:=⟨n-2,by omega⟩;have a:(Bf l).length=l.length:=Gb l;have d:DD (Am.Ce c h (m+1)) (((Bf l).drop 0).take (l.length*1))=some (Bf l):=by rw[FB,Fe,←a,FQ];exact Hu (LW c l)
  rw[Gh (Nat.le_of_lt f) b (by omega) (by omega) d,←a,Jw]
def Pg(c:Nat)(h:Aa)(v:AV)(r:Dw):Prop:=∃w,v=.agg [.str r.left,w,.int .i64 r.level]/\ZZ c h w r.right
inductive Fu (c:Nat) (h:Aa):List AV->List Dw->Prop
 |nil:Fu c h [] []
 |cons {v:AV} {r:Dw} {l:List AV} {rs:List Dw} (a:Pg c h v r) (t:Fu c h l rs):Fu c h (v::l) (r::rs)
theorem Fu.Vm{c:Nat}{h:Aa}:∀{l:List AV} {a:List Dw},l.length=a.length->(∀(j:Nat) (d:j<l.length) (e:j<a.length),Pg c h l[j] a[j])->Fu c h l a
 |[],[],_,_=>.nil
 |v::l,r::a,b,H=>.cons (H 0 (by simp) (by simp)) (Fu.Vm (by simpa using b) fun j d e=>H (j+1) (by simpa using d) (by simpa using e))
 |[],r::a,b,_=>by simp at b
 |v::l,[],b,_=>by simp at b
theorem Fu.frame{c:Nat}{h d:Aa}{l:List AV}{b:List Dw}(H:Fu c h l b)(e:∀p,c<p->AA d p=AA h p):Fu c d l b:=by
 induction H with
 |nil=>exact .nil
 |cons a t f=>obtain⟨w,i,g⟩:=a;exact .cons ⟨w,i,g.frame e⟩ f
theorem Fu.length{c:Nat}{h:Aa}{l:List AV}{rs:List Dw}(H:Fu c h l rs):l.length=rs.length:=by
 induction H with
 |nil=>rfl
 |cons _ _ a=>simp[a]
theorem Fu.three{c:Nat}{h:Aa}{l:List AV}{d:List Dw}(H:Fu c h l d):∀x∈l,x.cells.length=3:=by
 induction H with
 |nil=>simp
 |cons a t e=>
  intro x b;rcases BK.1 b with rfl|b
  ·obtain⟨w,rfl,_⟩:=a;rfl
  ·exact e x b
theorem Fu.DD{c:Nat}{h:Aa}{l:List AV}{d:List Dw}(H:Fu c h l d):∃b,Gg b d/\rows 3 b.length (b.flatMap AV.cells)=b/\b.length=l.length/\∀n,2<=n->DD (Ce c h n) (l.flatMap AV.cells)=some (b.flatMap AV.cells):=by
 induction H with
 |nil=>exact⟨[],.nil,rfl,rfl,fun n _=>rfl⟩
 |cons a t q=>
  rename_i v r l d;obtain⟨b,s,k,j,o⟩:=q;obtain⟨w,rfl,i⟩:=a;obtain⟨e,g,p⟩:=i.Ce;refine⟨.agg [.str r.left,e,.int .i64 r.level]::b,.cons ⟨e,rfl,g⟩ s,?_,by simp[j],fun n f=>?_⟩
  ·simp only[FV,rows,Cn,AV.cells];simp[beq_eq,k]
  ·rw[Cn,Cn];refine Wp ?_ (o n f);obtain⟨m,rfl⟩:∃m,n=m+1:=⟨n-1,by omega⟩;simp[AV.cells,Am.DD,FH (show (AV.str r.left).CY c=true from rfl),p (m+1) f,FH (show (AV.int .i64 r.level).CY c=true from rfl)]
theorem uL{c:Nat}{h:Aa}{s f:AV}{g:Ac}{b:List AV}(x:ZZ c h s g.Ae)(q:Fu c h b g.AP)(j:(f=.AO/\g.AP=[])∨∃o cap r ext rest,f=.AU o 0 b.length cap/\c<o/\AA h o=some (.cells r 3 (b.flatMap AV.cells++rest) ext))(n:Nat)(H:6<=n) :
 ∃v,Ce c h n (.agg [s,.str g.Ai,f])=some v/\GD v g:=by
 obtain⟨m,rfl⟩:∃m,n=m+6:=⟨n-6,by omega⟩;obtain⟨p,t,F⟩:=x.Ce;obtain⟨l,k,u,A,B⟩:=q.DD;have i:∃a,Ce c h (m+5) f=some a/\Co a 3 l:=by
  rcases j with⟨rfl,e⟩|⟨o,cap,r,ext,rest,rfl,z,y⟩
  ·rw[e]at k;cases k;exact⟨.AO,FH rfl,⟨.inl ⟨rfl,rfl⟩⟩⟩
  ·have d:(b.flatMap AV.cells).length=b.length*3:=by exact CP q.three
   refine⟨_,Gh (n:=m+4) (Nat.le_of_lt z) y (by omega) (by simp[d]) (cs':=l.flatMap AV.cells) ?_,⟨.inr ⟨_,by rw[←A,u]⟩⟩⟩;rw[FB,TG (by omega),Gx (by omega)];exact B (m+4) (by omega)
 obtain⟨a,w,D⟩:=i;refine⟨.agg [p,.str g.Ai,a],?_,p,a,l,rfl,t,D,k⟩;exact zq (by simp[DD,F (m+5) (by omega),FH (show (AV.str g.Ai).CY c=true from rfl),w]) (by omega)
structure Fa (c o:Nat)(vs:AV)(a:Int)(st0 st:St):Prop where
 hb:HB st
 lo:st.lo=st0.lo
 TW:st0.lo<=o
 oc:o<c
 Kj:AA st.h o=some (.cells 25 2 [vs,.int .i64 a] false)
 CY:∀p,p<c->p≠o->AA st.h p=AA st0.h p
 mem:∀p x,(p,x)∈st.h->p<c->(p,x)∈st0.h∨(p=o/\∃b:Int,x=.cells 25 2 [vs,.int .i64 b] false)
theorem Fa.st{c o:Nat}{vs:AV}{a:Int}{st0 st:St}(H:Fa c o vs a st0 st):RO st o vs a:=⟨H.Kj,by rw[H.lo];exact H.TW⟩
theorem Fa.cons{c o p n:Nat}{vs:AV}{a:Int}{b e:St}(H:Fa c o vs a b e){x:BJ}(j:c<=p)(i:p<n)(g:e.c<=n):Fa c o vs a b ⟨(p,x)::e.h,n,e.lo⟩ where
 hb:=fun q y d=>by
  rcases BK.1 d with h|h
  ·cases h;exact i
  ·exact Bt (H.hb q y h) g
 lo:=H.lo
 TW:=H.TW
 oc:=H.oc
 Kj:=by have:=H.oc;simp[AZ,show ¬p=o by omega,H.Kj]
 CY:=fun q d f=>by simp[AZ,show ¬p=q by omega,H.CY q d f]
 mem:=fun q y d g=>by
  rcases BK.1 d with h|h
  ·cases h;omega
  ·exact H.mem q y h g
theorem Fa.Ah{c o p:Nat}{g:AV}{a:Int}{b st:St}(H:Fa c o g a b st){x y:BJ}(k:c<=p)(f:AA st.h p=some y):Fa c o g a b { st with h:=Ah st.h p x } where
 hb:=fun q z d=>by obtain⟨i,h⟩:=NP d;exact H.hb q i h
 lo:=H.lo
 TW:=H.TW
 oc:=H.oc
 Kj:=by have:=H.oc;simp[Ag f,show ¬p=o by omega,H.Kj]
 CY:=fun q d e=>by simp[Ag f,show ¬p=q by omega,H.CY q d e]
 mem:=fun q z d j=>by
  rcases KS d with h|h
  ·omega
  ·exact H.mem q z h j
theorem Fa.Jv{c o p:Nat}{e:AV}{a:Int}{st0 st:St}(H:Fa c o e a st0 st)(g:c<=p):Fa c o e a st0 { st with h:=Jv st.h p } where
 hb:=fun q z b=>H.hb q z (Oh b)
 lo:=H.lo
 TW:=H.TW
 oc:=H.oc
 Kj:=by have:=H.oc;simp[Gz,show ¬p=o by omega,H.Kj]
 CY:=fun q b d=>by simp[Gz,show ¬p=q by omega,H.CY q b d]
 mem:=fun q z b f=>H.mem q z (Oh b) f
theorem Fa.tick{c o:Nat}{vs:AV}{a:Int}{f st:St}(H:Fa c o vs a f st)(b:Int):Fa c o vs b f (tick st o vs b) where
 hb:=fun q z d=>by obtain⟨g,h⟩:=NP d;exact H.hb q g h
 lo:=H.lo
 TW:=H.TW
 oc:=H.oc
 Kj:=by simp[Am.tick,Ag H.Kj]
 CY:=fun q d e=>by simp[Am.tick,Ag H.Kj,Aj e,H.CY q d e]
 mem:=fun q z d i=>by
  rcases KS d with h|h
  ·exact .inr ⟨h.1,b,h.2⟩
  ·exact H.mem q z h i
theorem Gp{st:St}{o p:Nat}{c:AV}{a b:Int}(h:AA st.h o=some (.cells 25 2 [c,.int .i64 a] false))(d:p≠o):AA (tick st o c b).h p=AA st.h p:=by simp[tick,Ag h,Aj d]
structure GS (c o:Nat)(vs:AV)(a:Int)(st0 st:St)(g:Ac)(kv:AV)(Dc:Nat)(ls:List AV):Prop where
 k:Fa c o vs a st0 st
 cc:c+2<=st.c
 Tc:AA st.h (c+1)=some (.cells 29 3 [kv,.str g.Ai,.AU Dc 0 ls.length none] false)
 pq:AA st.h c=some (.cells 29 3 [.AO,.str [],.AO] false)
 m:kU (c+2) st g kv Dc ls
structure GF (c o:Nat)(vs:AV)(a:Int)(st0 st:St)(g:Ac):Prop where
 k:Fa c o vs a st0 st
 cc:c+2<=st.c
 pq:AA st.h c=some (.cells 29 3 [.AO,.str [],.AO] false)
 small:g.Small
 Tc:∃kv rv ls,AA st.h (c+1)=some (.cells 29 3 [kv,.str g.Ai,rv] false)/\ZZ c st.h kv g.Ae/\Fu c st.h ls g.AP /\
  ((rv=.AO/\g.AP=[])∨∃p cap ty ext rest,rv=.AU p 0 ls.length cap/\c<p/\AA st.h p=some (.cells ty 3 (ls.flatMap AV.cells++rest) ext))
theorem Pg.of{c:Nat}{h:Aa}{v:AV}{r:Dw}(H:VU h v r)(b:∀o,Kt v=some o->c<o):Pg c h v r:=by obtain⟨w,rfl,a⟩:=H;exact⟨w,rfl,ZZ.of a b⟩
theorem kU.th{c b a:Nat}{i:St}{g:Ac}{l:AV}{f:List AV}(H:kU b i g l a f)(m:c<b):Fu c i.h f g.AP:=
 Fu.Vm H.ln fun j d e=>Pg.of (H.each j d e).1 fun o k=>by have:=((H.each j d e).2 o k).1;have:=H.Rc.1;omega
theorem GS.fin{c o d:Nat}{e f:AV}{a:Int}{b i:St}{g:Ac}{h:List AV}(H:GS c o e a b i g f d h)(l:g.Small):GF c o e a b i g:=
 ⟨H.k,H.cc,H.pq,l,f,_,h,H.Tc,ZZ.of H.m.Ae fun o j=>by have:=(H.m.kid o j).1;omega,H.m.th (by omega),.inr ⟨d,none,63,true,[],rfl,by have:=H.m.Rc.1;omega,by rw[Fh];exact H.m.AP⟩⟩
theorem GS.Um{c o e:Nat}{l d:AV}{a:Int}{b i:St}{g:Ac}{n:List AV}(H:GS c o l a b i g d e n){f:Aa}(k:∀p,Az d=some p->AA f p=AA i.h p):ZZ c f d g.Ae:=
 ZZ.of (H.m.Ae.heap k) fun p j=>by have:=(H.m.kid p j).1;omega
theorem GS.mH{c o e j:Nat}{s r:AV}{a:Int}{d k:St}{g:Ac}{b:List AV}(H:GS c o s a d k g r e b){l:Aa}(f:j<b.length)(i:j<g.AP.length)(q:∀p,Kt b[j]=some p->AA l p=AA k.h p):Pg c l b[j] g.AP[j]:=
 Pg.of ((H.m.each j f i).1.heap q) fun p n=>by have:=((H.m.each j f i).2 p n).1;have:=H.m.Rc.1;omega
theorem GS.UY{c o b:Nat}{r q:AV}{a:Int}{f i:St}{g:Ac}{l:List AV}(H:GS c o r a f i g q b l){h':Aa}(n:∀p,b<p->p<i.c->AA h' p=AA i.h p):Fu c h' l g.AP:=
 Fu.Vm H.m.ln fun j d e=>H.mH d e fun p k=>n p ((H.m.each j d e).2 p k).1 ((H.m.each j d e).2 p k).2
theorem GS.Un{c o b p:Nat}{h f:AV}{a:Int}{d st:St}{g:Ac}{i:List AV}(H:GS c o h a d st g f b i)(e:Az f=some p):c+2<=p/\p<b/\b<st.c:=⟨(H.m.kid p e).1,(H.m.kid p e).2,H.m.Rc.2⟩
theorem Nw{h:Aa}{id f o:Nat}{a:List AV}{ext:Bool}{cap:Option Nat}(d:AA h id=some (.cells f 1 a ext))(e:id≠o):eZ (o:=o) h (.AU id 0 a.length cap) a where
 len:=rfl
 at_:=fun i c st g=>by
  have b:=g id _ d e;refine⟨.AL id i,?_,?_⟩
  ·simp[AY,Bg,b,blt_eq,c]
  ·rw[AR b,Bu c]
theorem bP{k o:Nat}{st:St}{v w:AV}{zs:List Int}{a:Int}(f:RO st o v a)(c:GI v zs)(d:0<=a/\a<1000000000){l:List AV}(b:eZ (o:=o) st.h w l)(e:0<l.length)(g:l.length<1000000000) :
 Ab E (k+3) 18 [.AL o 0,w] st=.ret (l.getD (Br zs (a+1) l.length).toNat .undef,tick st o v (a+1)):=
 fO f c d b e g 18 C.f18 rfl rfl rfl (.inr rfl) rfl
theorem wT{k o:Nat}{st:St}{v w:AV}{zs:List Int}{a:Int}(f:RO st o v a)(c:GI v zs)(d:0<=a/\a<1000000000){l:List AV}(b:eZ (o:=o) st.h w l)(e:0<l.length)(g:l.length<1000000000) :
 Ab E (k+3) 20 [.AL o 0,w] st=.ret (l.getD (Br zs (a+1) l.length).toNat .undef,tick st o v (a+1)):=
 fO f c d b e g 20 C.f20 rfl rfl rfl (.inl rfl) rfl
theorem OC{zs:List Int}{a:Int}{l:List AV}(c:0<l.length):l.getD (Br zs (a+1) l.length).toNat .undef∈l:=by
 have b:=IG (zs:=zs) (a:=a+1) (n:=l.length) (by omega);have:(Br zs (a+1) l.length).toNat<l.length:=by omega
 rw[List.getD_eq_getElem?_getD,Bu this];exact BH this
section
variable {c o:Nat}{vs:AV}{zs:List Int}{a:Int}{st0 st:St}{g:Ac}{kv:AV}{Dc:Nat}{ls:List AV}{ts:TS}{k:Nat}
def Drw(zs:List Int)(b:Int)(xs:List AV)(x:AV):Prop:=xs.getD (Br zs (b+1) (xs.length:Int)).toNat .undef=x
theorem Drw.one{zs:List Int}{b:Int}{a:List AV}{x y:AV}(c:Drw zs b a x)(d:Drw zs b a y):x=y:=c.symm.trans d
def zM(zs:List Int)(b:Int)(g:Ac)(g':Ac)(m:Int):Prop:=∃s:Bz,Drw zs b [.str [97],.str [],.str [120],.str [116]] (.str s)/\g'={ g with Ai:=s }/\m=1
def KL(R:Ac->Int->Prop)(c o:Nat)(vs:AV)(a:Int)(st0:St)(ts:TS)(r:KN×TS×St):Prop:=
 r.1=.normal/\r.2.1.get 2=ts.get 2/\r.2.1.get 3=ts.get 3/\∃g m,R g m/\0<=m/\m<=5/\GF c o vs (a+m) st0 r.2.2 g
theorem AFC(N:GI vs zs)(O:0<=a/\a<100000)(H:GS c o vs a st0 st g kv Dc ls)(q:g.Small)(F:ts.get 0=.AL o 0)(u:ts.get 3=.AL (c+1) 0) :
 (Bc E (Ab E (k+3)) C.f4L13 ts st).to (KL (zM zs a g) c o vs a st0 ts):=by
 let d:List AV:=[.str [97],.str [],.str [120],.str [116]];have D:=H.k.oc;have I:=H.cc;have t:=H.k.cons (p:=st.c) (x:=.cells 9 1 d false) (n:=st.c+1) (by omega) (by omega) (by omega);have y:AA ((st.c,BJ.cells 9 1 d false)::st.h) st.c=some (.cells 9 1 d false):=by simp[AZ]
 have b:=bP (k:=k) t.st N (by omega) (Nw (cap:=some 4) y (show st.c≠o by omega)) (by simp[d]) (by simp[d]);obtain⟨s,r,j⟩:∃s:Bz,d.getD (Br zs (a+1) d.length).toNat .undef=.str s/\s.length<=50:=by have:=OC (zs:=zs) (a:=a) (l:=d) (by simp[d]);generalize d.getD (Br zs (a+1) d.length).toNat .undef=x at this;simp[d]at this;rcases this with rfl|rfl|rfl|rfl<;>exact⟨_,rfl,by simp⟩
 rw[r]at b;have A:=t.tick (a+1);have i:AA (tick ⟨(st.c,BJ.cells 9 1 d false)::st.h,st.c+1,st.lo⟩ o vs (a+1)).h (c+1)=some (.cells 29 3 [kv,.str g.Ai,.AU Dc 0 ls.length none] false):=by rw[Gp t.Kj (by omega)];simp[AZ,show ¬st.c=c+1 by omega,H.Tc]
 have e:=DZ (off:=1) (v:=.str s) i (by rw[A.lo];have:=H.k.TW;omega) (by simp) rfl rfl;have w:∀p x,(p,x)∈st.h->p<st.c:=H.k.hb;simp only[Jg,Jh]at e;simp[d]at b e;simp[C.f4L13,F,u,BC,blt_eq,ble_eq,Bp,Bl,AV.isTuple,AV.cells,Bb w,b,e,KL];have K:=A.Ah (p:=c+1) (x:=.cells 29 3 [kv,.str s,.AU Dc 0 ls.length none] false) (by omega) i;have f:∀p,p<st.c->p≠o->p≠c+1->AA (Ah (tick ⟨(st.c,.cells 9 1 d false)::st.h,st.c+1,st.lo⟩ o vs (a+1)).h (c+1) (.cells 29 3 [kv,.str s,.AU Dc 0 ls.length none] false)) p=AA st.h p:=fun p J z u=>by rw[Ag i,AJ (Aj u),Gp t.Kj z];simp[AZ,show ¬st.c=p by omega]
 have B:=H.m.Rc;refine⟨{ g with Ai:=s },1,⟨s,r,rfl,rfl⟩,by omega,by omega,K,by show c+2<=st.c+1;omega,?_,⟨q.Ae,q.AB,j,q.many,q.AP,q.few⟩,kv,_,ls,by show AA (Ah _ _ _) (c+1)=_;rw[Ag i,AX rfl],H.Um fun p L=>?_,H.UY fun p J z=>?_,.inr ⟨Dc,none,63,true,[],rfl,by omega,?_⟩⟩
 ·show AA (Ah _ _ _) c=_;rw[f c (by omega) (by omega) (by omega)];exact H.pq
 ·have:=H.Un L;exact f p (by omega) (by omega) (by omega)
 ·exact f p (by omega) (by omega) (by omega)
 ·show AA (Ah _ _ _) Dc=_;rw[f Dc (by omega) (by omega) (by omega),Fh];exact H.m.AP
end
theorem Uy{a b c w:AV}:∀{ls:List AV} {i:Nat},(∀x∈ls,x.cells.length=3)->ls[i]? =some (.agg [a,b,c])->(ls.flatMap AV.cells).set (3*i) w=(ls.set i (.agg [w,b,c])).flatMap AV.cells
 |[],i,_,h=>by simp at h
 |x::ls,0,d,h=>by simp at h;subst h;simp[AV.cells]
 |x::ls,i+1,d,h=>by have f:=d x (by simp);have g:=Uy (w:=w) (ls:=ls) (i:=i) (fun y e=>d y (by simp[e])) (by simpa using h);rw[Cn,QZ _ _ (by omega),f,show 3*(i+1)-3=3*i by omega,g];simp
theorem Ux{a b c w:AV}:∀{ls:List AV} {i:Nat},(∀x∈ls,x.cells.length=3)->ls[i]? =some (.agg [a,b,c])->(ls.flatMap AV.cells).set (3*i+2) w=(ls.set i (.agg [a,b,w])).flatMap AV.cells
 |[],i,_,h=>by simp at h
 |x::ls,0,d,h=>by simp at h;subst h;simp[AV.cells]
 |x::ls,i+1,d,h=>by have f:=d x (by simp);have g:=Ux (w:=w) (ls:=ls) (i:=i) (fun y e=>d y (by simp[e])) (by simpa using h);rw[Cn,QZ _ _ (by omega),f,show 3*(i+1)+2-3=3*i+2 by omega,g];simp
section
variable {c o:Nat}{vs:AV}{zs:List Int}{a:Int}{st0 st:St}{g:Ac}{kv:AV}{Dc:Nat}{ls:List AV}{ts:TS}{k:Nat}
theorem GS.XZ(H:GS c o vs a st0 st g kv Dc ls)(f:g.Small){a':Int}{b:St}{i:Nat}(x:i<ls.length){v':AV}{r':Dw}(D:Fa c o vs a' st0 b)(v:c+2<=b.c)(w:AA b.h (c+1)=some (.cells 29 3 [kv,.str g.Ai,.AU Dc 0 ls.length none] false))(A:AA b.h c=AA st.h c)(l:AA b.h Dc=some (.cells 63 3 ((ls.set i v').flatMap AV.cells) true))(z:∀p,Az kv=some p->AA b.h p=AA st.h p)(t:∀p,Dc<p->p<st.c->Kt ls[i]≠some p->AA b.h p=AA st.h p)(B:Pg c b.h v' r')(n:r'.Small) :
 GF c o vs a' st0 b { g with AP:=g.AP.set i r' }:=by
 have s:=H.m.Rc;have y:=H.cc;refine⟨D,v,A.trans H.pq,⟨f.Ae,f.AB,f.Ai,by simpa using f.many,fun r l=>?_,by simpa using f.few⟩,kv,.AU Dc 0 ls.length none,ls.set i v',w,H.Um z,Fu.Vm (by simp[H.m.ln]) fun j u k=>?_,.inr ⟨Dc,none,63,true,[],by simp,by omega,by rw[Fh];exact l⟩⟩
 ·rcases Kr l with h|h
  ·exact f.AP r h
  ·subst h;exact n
 ·by_cases e:j=i
  ·subst e;simp only[QY];exact B
  ·simp only[ML (Aj e)];have d:j<ls.length:=by simpa using u
   refine H.mH d (by simpa using k) fun p q=>?_;have:=(H.m.each j d (by simpa using k)).2 p q;exact t p this.1 this.2 fun h=>e (H.m.inj j i d x p q h)
theorem GS.FJ(H:GS c o vs a st0 st g kv Dc ls){i:Nat}(d:i<ls.length):∃(b:i<g.AP.length) (w:AV),ls[i]=.agg [.str g.AP[i].left,w,.int .i64 g.AP[i].level]/\Lp st.h 9 1 w (Bf g.AP[i].right):=by
 have b:i<g.AP.length:=by rw[←H.m.ln];exact d
 obtain⟨w,e,f⟩:=(H.m.each i d b).1;exact⟨b,w,e,f⟩
def zL(zs:List Int)(b:Int)(g:Ac)(i:Nat)(g':Ac)(m:Int):Prop:=∃s:Bz,Drw zs b [.str [97],.str [81],.str [],.str [95,120],.str [116],.str [110,117,109]] (.str s)/\g'={ g with AP:=g.AP.set i ⟨s,(g.AP.getD i default).right,(g.AP.getD i default).level⟩ }/\m=1
theorem AFB(V:GI vs zs)(ha:0<=a/\a<100000)(H:GS c o vs a st0 st g kv Dc ls)(Q:g.Small)(Y:ts.get 0=.AL o 0)(U:ts.get 3=.AL (c+1) 0){i:Nat}(r:i<ls.length)(R:ts.get 4=.int .i64 (i:Int)) :
 (Bc E (Ab E (k+3)) C.f4L11 ts st).to (KL (zL zs a g i) c o vs a st0 ts):=by
 obtain⟨B,w,q,T⟩:=H.FJ r;have P:=H.m.Rc;have W:=H.k.oc;have Z:=H.cc;have I:=H.k.cons (p:=st.c) (x:=.cells 9 1 [.str [97],.str [81],.str [],.str [95,120],.str [116],.str [110,117,109]] false) (n:=st.c+1) (by omega) (by omega) (by omega);have L:AA ((st.c,BJ.cells 9 1 [.str [97],.str [81],.str [],.str [95,120],.str [116],.str [110,117,109]] false)::st.h) st.c=some (.cells 9 1 [.str [97],.str [81],.str [],.str [95,120],.str [116],.str [110,117,109]] false):=by simp[AZ]
 have d:=bP (k:=k) I.st V (by omega) (Nw (cap:=some 6) L (show st.c≠o by omega)) (by simp) (by simp);obtain⟨s,A,u⟩:∃s:Bz,[AV.str [97],.str [81],.str [],.str [95,120],.str [116],.str [110,117,109]].getD (Br zs (a+1) [AV.str [97],.str [81],.str [],.str [95,120],.str [116],.str [110,117,109]].length).toNat .undef=.str s/\s.length<=50:=by have:=OC (zs:=zs) (a:=a) (l:=[AV.str [97],.str [81],.str [],.str [95,120],.str [116],.str [110,117,109]]) (by simp);generalize List.getD _ _ _=x at this;simp at this;rcases this with rfl|rfl|rfl|rfl|rfl|rfl<;>exact⟨_,rfl,by simp⟩
 rw[A]at d;have D:=I.tick (a+1);generalize t:tick ⟨(st.c,BJ.cells 9 1 [.str [97],.str [81],.str [],.str [95,120],.str [116],.str [110,117,109]] false)::st.h,st.c+1,st.lo⟩ o vs (a+1)=S2 at D d;have O:S2.c=st.c+1:=by rw[←t];rfl
 have e:∀p,p<st.c->p≠o->AA S2.h p=AA st.h p:=fun p h1 N=>by rw[←t,Gp I.Kj N];simp[AZ,show ¬st.c=p by omega]
 have b:AA S2.h Dc=some (.cells 63 3 (ls.flatMap AV.cells) true):=by rw[e Dc (by omega) (by omega)];exact H.m.AP
 have y:AA S2.h (c+1)=some (.cells 29 3 [kv,.str g.Ai,.AU Dc 0 ls.length none] false):=by rw[e _ (by omega) (by omega)];exact H.Tc
 have j:(ls.flatMap AV.cells).length=ls.length*3:=CP H.m.three;have f:=DZ (st:=S2) (off:=3*i) (v:=.str s) b (by rw[D.lo];have:=H.k.TW;omega) (by rw[j];omega) rfl rfl;rw[Uy H.m.three (show ls[i]? =some (.agg [.str g.AP[i].left,w,.int .i64 g.AP[i].level]) by rw[Bu r,q])]at f;have K:∀p x,(p,x)∈st.h->p<st.c:=H.k.hb;have J:AQ st.h (.AL (c+1) 2)=some (.AU Dc 0 ls.length none):=by rw[AR H.Tc];rfl
 have F:AQ S2.h (.AL (c+1) 2)=some (.AU Dc 0 ls.length none):=by rw[AR y];rfl
 simp at d;simp[C.f4L11,Y,U,R,KJ,MQ,Cc,Ci,DK,J,F,AV.DU,BC,blt_eq,beq_eq,ble_eq,Bp,Bl,AV.isTuple,AV.cells,Bb K,d,XO b r,f,KL];have S:g.AP.getD i default=g.AP[i]:=by simp[List.getD,B]
 refine⟨_,1,⟨s,A,by rw[S],rfl⟩,by omega,by omega,H.XZ Q (a':=a+1) r (r':=⟨s,g.AP[i].right,g.AP[i].level⟩) (v':=.agg [.str s,w,.int .i64 g.AP[i].level]) (D.Ah (by omega) b) (by show c+2<=S2.c;omega) ?_ ?_ ?_ (fun p z=>?_) (fun p h1 N _=>?_) ?_ ?_⟩
 ·show AA (Ah _ _ _) (c+1)=_;rw[Ag b,AJ (by omega)];exact y
 ·show AA (Ah _ _ _) c=_;rw[Ag b,AJ (by omega)];exact e c (by omega) (by omega)
 ·show AA (Ah _ _ _) Dc=_;rw[Ag b,AX rfl]
 ·have:=H.Un z;show AA (Ah _ _ _) p=_;rw[Ag b,AJ (by omega)];exact e p (by omega) (by omega)
 ·show AA (Ah _ _ _) p=_;rw[Ag b,AJ (by omega)];exact e p (by omega) (by omega)
 ·refine⟨w,rfl,ZZ.of (T.heap fun p z=>?_) fun p z=>?_⟩
  ·have:=(H.m.each i r B).2 p (by rw[q];exact z);show AA (Ah _ _ _) p=_;rw[Ag b,AJ (by omega)];exact e p (by omega) (by omega)
  ·have:=(H.m.each i r B).2 p (by rw[q];exact z);omega
 ·have:=Q.AP _ (BH B);exact⟨u,this.right,this.AB,this.level⟩
end
section
variable {c o:Nat}{vs:AV}{zs:List Int}{a:Int}{st0 st:St}{g:Ac}{kv:AV}{Dc:Nat}{ls:List AV}{ts:TS}{k:Nat}
def zJ(zs:List Int)(b:Int)(g:Ac)(i:Nat)(g':Ac)(m:Int):Prop:=∃s:Int,Drw zs b [.int .i64 (-1),.int .i64 99,.int .i64 100,.int .i64 1,.int .i64 (-9223372036854775808)] (.int .i64 s)/\g'={ g with AP:=g.AP.set i ⟨(g.AP.getD i default).left,(g.AP.getD i default).right,s⟩ }/\m=1
theorem AD9(V:GI vs zs)(ha:0<=a/\a<100000)(H:GS c o vs a st0 st g kv Dc ls)(Q:g.Small)(Y:ts.get 0=.AL o 0)(U:ts.get 3=.AL (c+1) 0){i:Nat}(r:i<ls.length)(R:ts.get 4=.int .i64 (i:Int)) :
 (Bc E (Ab E (k+3)) C.f4L7 ts st).to (KL (zJ zs a g i) c o vs a st0 ts):=by
 obtain⟨B,w,q,T⟩:=H.FJ r;have P:=H.m.Rc;have W:=H.k.oc;have Z:=H.cc;have I:=H.k.cons (p:=st.c) (x:=.cells 3 1 [.int .i64 (-1),.int .i64 99,.int .i64 100,.int .i64 1,.int .i64 (-9223372036854775808)] false) (n:=st.c+1) (by omega) (by omega) (by omega);have L:AA ((st.c,BJ.cells 3 1 [.int .i64 (-1),.int .i64 99,.int .i64 100,.int .i64 1,.int .i64 (-9223372036854775808)] false)::st.h) st.c=some (.cells 3 1 [.int .i64 (-1),.int .i64 99,.int .i64 100,.int .i64 1,.int .i64 (-9223372036854775808)] false):=by simp[AZ]
 have d:=wT (k:=k) I.st V (by omega) (Nw (cap:=some 5) L (show st.c≠o by omega)) (by simp) (by simp);obtain⟨s,A,u⟩:∃s:Int,[AV.int .i64 (-1),.int .i64 99,.int .i64 100,.int .i64 1,.int .i64 (-9223372036854775808)].getD (Br zs (a+1) [AV.int .i64 (-1),.int .i64 99,.int .i64 100,.int .i64 1,.int .i64 (-9223372036854775808)].length).toNat .undef=.int .i64 s/\(-9223372036854775808<=s/\s<9223372036854775808):=by have:=OC (zs:=zs) (a:=a) (l:=[AV.int .i64 (-1),.int .i64 99,.int .i64 100,.int .i64 1,.int .i64 (-9223372036854775808)]) (by simp);generalize List.getD _ _ _=x at this;simp at this;rcases this with rfl|rfl|rfl|rfl|rfl<;>exact⟨_,rfl,by omega⟩
 rw[A]at d;have D:=I.tick (a+1);generalize t:tick ⟨(st.c,BJ.cells 3 1 [.int .i64 (-1),.int .i64 99,.int .i64 100,.int .i64 1,.int .i64 (-9223372036854775808)] false)::st.h,st.c+1,st.lo⟩ o vs (a+1)=S2 at D d;have O:S2.c=st.c+1:=by rw[←t];rfl
 have e:∀p,p<st.c->p≠o->AA S2.h p=AA st.h p:=fun p h1 N=>by rw[←t,Gp I.Kj N];simp[AZ,show ¬st.c=p by omega]
 have b:AA S2.h Dc=some (.cells 63 3 (ls.flatMap AV.cells) true):=by rw[e Dc (by omega) (by omega)];exact H.m.AP
 have y:AA S2.h (c+1)=some (.cells 29 3 [kv,.str g.Ai,.AU Dc 0 ls.length none] false):=by rw[e _ (by omega) (by omega)];exact H.Tc
 have j:(ls.flatMap AV.cells).length=ls.length*3:=CP H.m.three;have f:=DZ (st:=S2) (off:=3*i+2) (v:=.int .i64 s) b (by rw[D.lo];have:=H.k.TW;omega) (by rw[j];omega) rfl rfl;rw[Ux H.m.three (show ls[i]? =some (.agg [.str g.AP[i].left,w,.int .i64 g.AP[i].level]) by rw[Bu r,q])]at f;have K:∀p x,(p,x)∈st.h->p<st.c:=H.k.hb;have J:AQ st.h (.AL (c+1) 2)=some (.AU Dc 0 ls.length none):=by rw[AR H.Tc];rfl
 have F:AQ S2.h (.AL (c+1) 2)=some (.AU Dc 0 ls.length none):=by rw[AR y];rfl
 simp at d;simp[C.f4L7,Y,U,R,KJ,MQ,Cc,Ci,DK,J,F,AV.DU,BC,blt_eq,beq_eq,ble_eq,Bp,Bl,AV.isTuple,AV.cells,Bb K,d,XO b r,f,KL];have S:g.AP.getD i default=g.AP[i]:=by simp[List.getD,B]
 refine⟨_,1,⟨s,A,by rw[S],rfl⟩,by omega,by omega,H.XZ Q (a':=a+1) r (r':=⟨g.AP[i].left,g.AP[i].right,s⟩) (v':=.agg [.str g.AP[i].left,w,.int .i64 s]) (D.Ah (by omega) b) (by show c+2<=S2.c;omega) ?_ ?_ ?_ (fun p z=>?_) (fun p h1 N _=>?_) ?_ ?_⟩
 ·show AA (Ah _ _ _) (c+1)=_;rw[Ag b,AJ (by omega)];exact y
 ·show AA (Ah _ _ _) c=_;rw[Ag b,AJ (by omega)];exact e c (by omega) (by omega)
 ·show AA (Ah _ _ _) Dc=_;rw[Ag b,AX rfl]
 ·have:=H.Un z;show AA (Ah _ _ _) p=_;rw[Ag b,AJ (by omega)];exact e p (by omega) (by omega)
 ·show AA (Ah _ _ _) p=_;rw[Ag b,AJ (by omega)];exact e p (by omega) (by omega)
 ·refine⟨w,rfl,ZZ.of (T.heap fun p z=>?_) fun p z=>?_⟩
  ·have:=(H.m.each i r B).2 p (by rw[q];exact z);show AA (Ah _ _ _) p=_;rw[Ag b,AJ (by omega)];exact e p (by omega) (by omega)
  ·have:=(H.m.each i r B).2 p (by rw[q];exact z);omega
 ·have:=Q.AP _ (BH B);exact⟨this.left,this.right,this.AB,u⟩
end
theorem Om{st st0:St}{c o g b bytes id e:Nat}{vs w x:AV}{a:Int}{d:List AV}(K:Fa c o vs a st0 st)(H:Lp st.h g b w d)(S:∀p,Az w=some p->c<=p/\p<id)(R:0<b)(A:bytes<=1000)(Y:d.length<=1000)(T:AA st.h e=some (.cells g b x.cells false))(P:x.cells.length=b)(l:∀p y,(p,y)∈st.h->p<id)(F:id<st.c)(n:c<=id) :
 ∃j,Bq id g b bytes w (.AU e 0 1 (some 1)) st=some (.AU id 0 (d.length+1) none,j)/\j.c=st.c/\Fa c o vs a st0 j/\AA j.h id=some (.cells g b ((d++[x]).flatMap AV.cells) true) /\
  (∀p,p≠id->Az w≠some p->AA j.h p=AA st.h p):=by
 have B:Nat.beq b 0=false:=by rw[beq_eq];simp;omega
 have t:Nat.beq b b=true:=OI b;have r:Nat.beq g g=true:=OI g;have O:b≠0:=by omega
 have m:BS st.h b 1 (.AU e 0 1 (some 1))=some x.cells:=by simp[BS,T,ble_eq,P];rw[←P,FQ]
 have i:(d.length+1)*bytes<=room/\d.length+1<=room:=by have:=QO (show d.length+1<=1001 by omega) A;unfold room;constructor<;>omega
 have f:∀(h:Aa),(∀p y,(p,y)∈h->p<id)->∀z,grow id g b bytes d.length 1 z ⟨h,st.c,st.lo⟩=some (.AU id 0 (d.length+1) none,⟨(id,.cells g b z true)::h,st.c,st.lo⟩):=fun h V z=>by simp[grow,ble_eq,i.1,i.2,Bb V]
 have Q:st=⟨st.h,st.c,st.lo⟩:=rfl;cases H with
 |nl=>refine⟨⟨(id,.cells g b x.cells true)::st.h,st.c,st.lo⟩,?_,rfl,K.cons n F (Ao _),by simp[AZ],fun p s _=>by simp[AZ,Aj s]⟩;have:=f st.h l x.cells;simp only[GY]at this;simp only[Bq,lenOf,m,CX,B,Bj];simp only[show Nat.beq 1 0=false from rfl,Bj];exact this
 |mt q ext J=>refine⟨⟨(id,.cells g b x.cells true)::st.h,st.c,st.lo⟩,?_,rfl,K.cons n F (Ao _),by simp[AZ],fun p s _=>by simp[AZ,Aj s]⟩;have:=f st.h l x.cells;simp only[GY]at this;simp only[Bq,lenOf,m,CX,B,Bj];simp only[show Nat.beq 1 0=false from rfl,Bj,GG,J,r,t,GY,La,IK,Dz,FN,QW,List.drop_nil,List.take_nil,JJ];exact this
 |ob q d Z U J=>
  have v:=S q rfl;have k:=CP U;refine⟨⟨(id,.cells g b (d.flatMap AV.cells++x.cells) true)::Jv st.h q,st.c,st.lo⟩,?_,rfl,(K.Jv v.1).cons n F (Ao _),by simp[AZ],fun p s u=>?_⟩
  ·have:=f (Jv st.h q) (fun p y W=>l p y (Oh W)) (d.flatMap AV.cells++x.cells);have N:Nat.ble (d.length*b) (d.flatMap AV.cells).length=true:=Dv (by omega);have L:Nat.ble ((d.length+1)*b) (d.flatMap AV.cells).length=false:=by rw[ble_eq,k];simp[Il];omega
   have D:Nat.ble st.lo q=true:=Dv (by rw[K.lo];have:=K.TW;have:=K.oc;omega);have I:(d.flatMap AV.cells).take (d.length*b)=d.flatMap AV.cells:=Gx (by omega);simp only[Bq,lenOf,m,CX,B,Bj];simp only[show Nat.beq 1 0=false from rfl,Bj,GG,J,r,t,Dz,N,L,D,FN,Ba,FB,I];exact this
  ·have:q≠p:=fun e=>u (by rw[e];rfl);simp[AZ,Aj s,Gz,this]
section
variable {c o:Nat}{vs:AV}{zs:List Int}{a:Int}{st0 st:St}{g:Ac}{kv:AV}{Dc:Nat}{ls:List AV}{ts:TS}{k:Nat}
theorem mJ{k:Nat}{st:St}:Ab E (k+1) 19 [.str [122],.int .i64 41] st=.ret (.str (repeated [122] 41),st):=pK (g:=fun _=>hRepeat) rfl rfl
theorem Ve(l:List Bz)(s:Bz):Bf l++[.str s]=Bf (l++[s]):=by simp[Bf]
theorem Lp.bq{h:Aa}{id:Nat}{l:List Bz}(b:l≠[])(a:AA h id=some (.cells 9 1 ((Bf l).flatMap AV.cells) true)):Lp h 9 1 (.AU id 0 l.length none) (Bf l):=by have:=Lp.ob (h:=h) (ty:=9) (sz:=1) id (Bf l) (by simpa [Bf]using b) (fun x c=>by obtain⟨s,_,rfl⟩:=BP.1 c;rfl) a;simpa using this
def zN(zs:List Int)(b:Int)(g:Ac)(g':Ac)(m:Int):Prop:=∃s:Bz,Drw zs b [.str [97],.str [65],.str [],.str [122,95,57],.str (repeated [122] 41)] (.str s)/\g'={ g with Ae:=g.Ae++[s] }/\m=1
theorem AFD(hv:GI vs zs)(ha:0<=a/\a<100000)(H:GS c o vs a st0 st g kv Dc ls)(K:g.Small)(a3:g.Ae.length<=9)(V:g.Ae.length+g.AP.length<=11)(h0:ts.get 0=.AL o 0)(P:ts.get 3=.AL (c+1) 0) :
 (Bc E (Ab E (k+3)) C.f4L15 ts st).to (KL (zN zs a g) c o vs a st0 ts):=by
 have a0:=H.m.Rc;have a1:=H.k.oc;have a2:=H.cc;have O:=H.k.cons (p:=st.c) (x:=.cells 9 1 [.str [97],.str [65],.str [],.str [122,95,57],.str (repeated [122] 41)] false) (n:=st.c+3) (by omega) (by omega) (by omega);have U:AA ((st.c,BJ.cells 9 1 [.str [97],.str [65],.str [],.str [122,95,57],.str (repeated [122] 41)] false)::st.h) st.c=some (.cells 9 1 [.str [97],.str [65],.str [],.str [122,95,57],.str (repeated [122] 41)] false):=by simp[AZ]
 have b:=bP (k:=k) O.st hv (by omega) (Nw (cap:=some 5) U (show st.c≠o by omega)) (by simp) (by simp);obtain⟨s,I,z⟩:∃s:Bz,[AV.str [97],.str [65],.str [],.str [122,95,57],.str (repeated [122] 41)].getD (Br zs (a+1) [AV.str [97],.str [65],.str [],.str [122,95,57],.str (repeated [122] 41)].length).toNat .undef=.str s/\s.length<=50:=by have:=OC (zs:=zs) (a:=a) (l:=[AV.str [97],.str [65],.str [],.str [122,95,57],.str (repeated [122] 41)]) (by simp);generalize List.getD _ _ _=x at this;simp only[BK,Ju,Jp]at this;rcases this with rfl|rfl|rfl|rfl|rfl<;>exact⟨_,rfl,by decide⟩
 rw[I]at b;have W:=O.tick (a+1);generalize r:tick ⟨(st.c,BJ.cells 9 1 [.str [97],.str [65],.str [],.str [122,95,57],.str (repeated [122] 41)] false)::st.h,st.c+3,st.lo⟩ o vs (a+1)=S2 at W b;have Z:S2.c=st.c+3:=by rw[←r];rfl
 have t:∀p,p<st.c->p≠o->AA S2.h p=AA st.h p:=fun p R J=>by rw[←r,Gp O.Kj J];simp[AZ,show ¬st.c=p by omega]
 have F:∀p x,(p,x)∈S2.h->p<st.c+1:=fun p x w=>by
  rw[←r]at w;rcases KS w with h|h
  ·omega
  ·rcases BK.1 h with h|h
   ·cases h;omega
   ·have:=H.k.hb p x h;omega
 have A:AA S2.h (c+1)=some (.cells 29 3 [kv,.str g.Ai,.AU Dc 0 ls.length none] false):=by rw[t _ (by omega) (by omega)];exact H.Tc
 have K3:=W.cons (p:=st.c+1) (x:=.cells 9 1 [.str s] false) (n:=S2.c) (by omega) (by omega) (Ao _);have S:Lp ((st.c+1,BJ.cells 9 1 [.str s] false)::S2.h) 9 1 kv (Bf g.Ae):=H.m.Ae.heap fun p u=>by have:=H.Un u;rw[AZ,AJ (by omega)];exact t p (by omega) (by omega)
 obtain⟨L,j,B,Y,D,q⟩:=Om (bytes:=16) (id:=st.c+2) (e:=st.c+1) (x:=.str s) K3 S (fun p u=>by have:=H.Un u;omega) (by omega) (by omega) (by simpa using (by omega:g.Ae.length<=1000)) (by simp[AZ,AV.cells]) rfl
  (fun p y w=>by
   rcases BK.1 w with h|h
   ·cases h;omega
   ·have:=F p y h;omega) (by show st.c+2<S2.c;omega) (by omega)
 have f:AA L.h (c+1)=some (.cells 29 3 [kv,.str g.Ai,.AU Dc 0 ls.length none] false):=by rw[q _ (by omega) (fun e=>by have:=H.Un e;omega),AZ,AJ (by omega)];exact A
 have i:=DZ (st:=L) (off:=0) (v:=.AU (st.c+2) 0 (g.Ae.length+1) none) f (by rw[Y.lo];have:=H.k.TW;omega) (by simp) rfl rfl;simp only[Jh]at i;have T:∀p x,(p,x)∈st.h->p<st.c:=H.k.hb;have Q:AQ st.h (.AL (c+1) 0)=some kv:=by rw[AR H.Tc];rfl
 have N:AQ S2.h (.AL (c+1) 0)=some kv:=by rw[AR A];rfl
 have e3:BA (st.c+1) (.cells 9 1 [.str s] false) S2=some ⟨(st.c+1,.cells 9 1 [.str s] false)::S2.h,S2.c,S2.lo⟩:=Bb (h:=S2.h) (c:=S2.c) (lo:=S2.lo) F;simp at b j;simp[C.f4L15,h0,P,KJ,MQ,Cc,Ci,DK,Q,N,AV.DU,BC,blt_eq,beq_eq,ble_eq,Bp,Bl,AV.isTuple,AV.cells,mJ,Bb T,b,e3,j,i,KL];have d:∀p,p<st.c->p≠o->p≠c+1->Az kv≠some p->AA (Ah L.h (c+1) (.cells 29 3 [.AU (st.c+2) 0 (g.Ae.length+1) none,.str g.Ai,.AU Dc 0 ls.length none] false)) p=AA st.h p:=fun p R J P h4=>by rw[Ag f,AJ (Aj P),q p (by omega) h4,AZ,AJ (by omega)];exact t p R J
 refine⟨{ g with Ae:=g.Ae++[s] },1,⟨s,I,rfl,rfl⟩,by omega,by omega,Y.Ah (by omega) f,by show c+2<=L.c;rw[B];show c+2<=S2.c;omega,?_,⟨by simp;omega,fun x hx=>?_,K.Ai,K.many,K.AP,by simp;omega⟩,.AU (st.c+2) 0 (g.Ae.length+1) none,_,ls,by show AA (Ah _ _ _) (c+1)=_;rw[Ag f,AX rfl],?_,H.UY fun p R J=>?_,.inr ⟨Dc,none,63,true,[],rfl,by omega,?_⟩⟩
 ·show AA (Ah _ _ _) c=_;rw[d c (by omega) (by omega) (by omega) (fun e=>by have:=H.Un e;omega)];exact H.pq
 ·rcases Ca.1 hx with h|h
  ·exact K.AB x h
  ·simp at h;subst h;exact z
 ·rw[Ve]at D;have w:=Lp.bq (l:=g.Ae++[s]) (by simp) D;rw[show (g.Ae++[s]).length=g.Ae.length+1 by simp]at w;exact ZZ.of (w.heap fun p u=>by cases u;show AA (Ah _ _ _) _=_;rw[Ag f,AJ (by omega)]) fun p u=>by cases u;omega
 ·exact d p (by omega) (by omega) (by omega) (fun e=>by have:=H.Un e;omega)
 ·show AA (Ah _ _ _) Dc=_;rw[d Dc (by omega) (by omega) (by omega) (fun e=>by have:=H.Un e;omega),Fh];exact H.m.AP
def zK(zs:List Int)(b:Int)(g:Ac)(i:Nat)(g':Ac)(m:Int):Prop:=∃s:Bz,Drw zs b [.str [119],.str [],.str [115],.str [97],.str [112,108,117,115]] (.str s)/\g'={ g with AP:=g.AP.set i ⟨(g.AP.getD i default).left,(g.AP.getD i default).right++[s],(g.AP.getD i default).level⟩ }/\m=1
theorem AFA(hv:GI vs zs)(ha:0<=a/\a<100000)(H:GS c o vs a st0 st g kv Dc ls)(hs:g.Small)(Q:∀r∈g.AP,r.right.length<=29)(h0:ts.get 0=.AL o 0)(h3:ts.get 3=.AL (c+1) 0){i:Nat}(D:i<ls.length)(h4:ts.get 4=.int .i64 (i:Int)) :
 (Bc E (Ab E (k+3)) C.f4L9 ts st).to (KL (zK zs a g i) c o vs a st0 ts):=by
 obtain⟨Y,w,z,hw⟩:=H.FJ D;have b0:=H.m.Rc;have b1:=H.k.oc;have b2:=H.cc;have f:∀p,Az w=some p->Dc<p/\p<st.c:=fun p q=>(H.m.each i D Y).2 p (by rw[z];exact q);have a8:=Q _ (BH Y);have K1:=H.k.cons (p:=st.c) (x:=.cells 9 1 [.str [119],.str [],.str [115],.str [97],.str [112,108,117,115]] false) (n:=st.c+3) (by omega) (by omega) (by omega);have a6:AA ((st.c,BJ.cells 9 1 [.str [119],.str [],.str [115],.str [97],.str [112,108,117,115]] false)::st.h) st.c=some (.cells 9 1 [.str [119],.str [],.str [115],.str [97],.str [112,108,117,115]] false):=by simp[AZ]
 have b:=bP (k:=k) K1.st hv (by omega) (Nw (cap:=some 5) a6 (show st.c≠o by omega)) (by simp) (by simp);obtain⟨s,V,O⟩:∃s:Bz,[AV.str [119],.str [],.str [115],.str [97],.str [112,108,117,115]].getD (Br zs (a+1) [AV.str [119],.str [],.str [115],.str [97],.str [112,108,117,115]].length).toNat .undef=.str s/\s.length<=50:=by have:=OC (zs:=zs) (a:=a) (l:=[AV.str [119],.str [],.str [115],.str [97],.str [112,108,117,115]]) (by simp);generalize List.getD _ _ _=x at this;simp only[BK,Ju,Jp]at this;rcases this with rfl|rfl|rfl|rfl|rfl<;>exact⟨_,rfl,by decide⟩
 rw[V]at b;have K2:=K1.tick (a+1);generalize J:tick ⟨(st.c,BJ.cells 9 1 [.str [119],.str [],.str [115],.str [97],.str [112,108,117,115]] false)::st.h,st.c+3,st.lo⟩ o vs (a+1)=S2 at K2 b;have a9:S2.c=st.c+3:=by rw[←J];rfl
 have u:∀p,p<st.c->p≠o->AA S2.h p=AA st.h p:=fun p h1 W=>by rw[←J,Gp K1.Kj W];simp[AZ,show ¬st.c=p by omega]
 have U:∀p x,(p,x)∈S2.h->p<st.c+1:=fun p x L=>by
  rw[←J]at L;rcases KS L with h|h
  ·omega
  ·rcases BK.1 h with h|h
   ·cases h;omega
   ·have:=H.k.hb p x h;omega
 have I:AA S2.h Dc=some (.cells 63 3 (ls.flatMap AV.cells) true):=by rw[u Dc (by omega) (by omega)];exact H.m.AP
 have R:AA S2.h (c+1)=some (.cells 29 3 [kv,.str g.Ai,.AU Dc 0 ls.length none] false):=by rw[u _ (by omega) (by omega)];exact H.Tc
 have K3:=K2.cons (p:=st.c+1) (x:=.cells 9 1 [.str s] false) (n:=S2.c) (by omega) (by omega) (Ao _);have a4:Lp ((st.c+1,BJ.cells 9 1 [.str s] false)::S2.h) 9 1 w (Bf g.AP[i].right):=hw.heap fun p q=>by have:=f p q;rw[AZ,AJ (by omega)];exact u p (by omega) (by omega)
 obtain⟨N,B,S,K4,T,j⟩:=Om (bytes:=16) (id:=st.c+2) (e:=st.c+1) (x:=.str s) K3 a4 (fun p q=>by have:=f p q;omega) (by omega) (by omega) (by simpa using (by omega:g.AP[i].right.length<=1000)) (by simp[AZ,AV.cells]) rfl
  (fun p y L=>by
   rcases BK.1 L with h|h
   ·cases h;omega
   ·have:=U p y h;omega) (by show st.c+2<S2.c;omega) (by omega)
 have d:AA N.h Dc=some (.cells 63 3 (ls.flatMap AV.cells) true):=by rw[j _ (by omega) (fun e=>by have:=f _ e;omega),AZ,AJ (by omega)];exact I
 have P:AA N.h (c+1)=some (.cells 29 3 [kv,.str g.Ai,.AU Dc 0 ls.length none] false):=by rw[j _ (by omega) (fun e=>by have:=f _ e;omega),AZ,AJ (by omega)];exact R
 have K:(ls.flatMap AV.cells).length=ls.length*3:=CP H.m.three;have F:=KT H.m.three (show ls[i]? =some (.agg [.str g.AP[i].left,w,.int .i64 g.AP[i].level]) by rw[Bu D,z]);have A:=DZ (st:=N) (off:=3*i+1) (v:=.AU (st.c+2) 0 (g.AP[i].right.length+1) none) d (by rw[K4.lo];have:=H.k.TW;omega) (by rw[K];omega) rfl rfl;rw[Nl H.m.three (show ls[i]? =some (.agg [.str g.AP[i].left,w,.int .i64 g.AP[i].level]) by rw[Bu D,z])]at A;have a5:∀p x,(p,x)∈st.h->p<st.c:=H.k.hb;have a7:AQ st.h (.AL (c+1) 2)=some (.AU Dc 0 ls.length none):=by rw[AR H.Tc];rfl
 have a0:AQ S2.h (.AL (c+1) 2)=some (.AU Dc 0 ls.length none):=by rw[AR R];rfl
 have a2:AQ N.h (.AL (c+1) 2)=some (.AU Dc 0 ls.length none):=by rw[AR P];rfl
 have a1:AQ st.h (.AL Dc (3*i+1))=some w:=by rw[AR H.m.AP];exact F.2.1
 have a3:AQ S2.h (.AL Dc (3*i+1))=some w:=by rw[AR I];exact F.2.1
 have e3:BA (st.c+1) (.cells 9 1 [.str s] false) S2=some ⟨(st.c+1,.cells 9 1 [.str s] false)::S2.h,S2.c,S2.lo⟩:=Bb (h:=S2.h) (c:=S2.c) (lo:=S2.lo) U;have Z:∀n,AY 3 (.AU Dc 0 ls.length none) (.int .i64 (i:Int)) ⟨st.h,n,st.lo⟩=some (.AL Dc (3*i),⟨st.h,n,st.lo⟩):=fun n=>XO (st:=⟨st.h,n,st.lo⟩) H.m.AP D;simp at b B;simp[C.f4L9,h0,h3,h4,KJ,MQ,Cc,Ci,DK,Dx,a7,a0,a2,a1,a3,Z,XO I D,AV.DU,BC,blt_eq,beq_eq,ble_eq,Bp,Bl,AV.isTuple,AV.cells,Bb a5,b,e3,B,XO d D,A,KL];have t:∀p,p<st.c->p≠o->p≠Dc->Az w≠some p->∀y,AA (Ah N.h Dc y) p=AA st.h p:=fun p h1 W h3 h4 y=>by rw[Ag d,AJ (Aj h3),j p (by omega) h4,AZ,AJ (by omega)];exact u p h1 W
 have eg:g.AP.getD i default=g.AP[i]:=by simp[List.getD,Y]
 refine⟨_,1,⟨s,V,by rw[eg],rfl⟩,by omega,by omega,H.XZ hs (a':=a+1) D (r':=⟨g.AP[i].left,g.AP[i].right++[s],g.AP[i].level⟩) (v':=.agg [.str g.AP[i].left,.AU (st.c+2) 0 (g.AP[i].right.length+1) none,.int .i64 g.AP[i].level]) (K4.Ah (by omega) d) (by show c+2<=N.c;rw[S];show c+2<=S2.c;omega) ?_ ?_ ?_ (fun p q=>?_) (fun p h1 W h5=>?_) ?_ ?_⟩
 ·show AA (Ah _ _ _) (c+1)=_;rw[Ag d,AJ (by omega)];exact P
 ·exact t c (by omega) (by omega) (by omega) (fun e=>by have:=f _ e;omega) _
 ·show AA (Ah _ _ _) Dc=_;rw[Ag d,AX rfl]
 ·have:=H.Un q;exact t p (by omega) (by omega) (by omega) (fun e=>by have:=f _ e;omega) _
 ·exact t p (by omega) (by omega) (by omega) (fun e=>h5 (by rw[z];exact e)) _
 ·rw[Ve]at T;have L:=Lp.bq (l:=g.AP[i].right++[s]) (by simp) T;rw[show (g.AP[i].right++[s]).length=g.AP[i].right.length+1 by simp]at L;exact⟨_,rfl,ZZ.of (L.heap fun p q=>by cases q;show AA (Ah _ _ _) _=_;rw[Ag d,AJ (by omega)]) fun p q=>by cases q;omega⟩
 ·have:=hs.AP _ (BH Y);refine⟨this.left,by simp;omega,fun x hx=>?_,this.level⟩;rcases Ca.1 hx with h|h
  ·exact this.AB x h
  ·simp at h;subst h;exact O
end
section
variable {c o:Nat}{vs:AV}{zs:List Int}{a:Int}{st0 st:St}{g:Ac}{kv:AV}{Dc:Nat}{ls:List AV}{ts:TS}{k:Nat}
def zI(g:Ac)(i:Nat)(g':Ac)(m:Int):Prop:=g'={ g with AP:=g.AP++[g.AP.getD i default] }/\m=0
theorem AD8(ha:0<=a/\a<100000)(H:GS c o vs a st0 st g kv Dc ls)(I:g.Small)(a7:g.AP.length<=11)(Z:g.Ae.length+g.AP.length<=11)(h3:ts.get 3=.AL (c+1) 0){i:Nat}(u:i<ls.length)(h4:ts.get 4=.int .i64 (i:Int)) :
 (Bc E (Ab E (k+3)) C.f4L5 ts st).to (KL (zI g i) c o vs a st0 ts):=by
 obtain⟨U,w,z,hw⟩:=H.FJ u;have a0:=H.m.Rc;have a4:=H.k.oc;have a6:=H.cc;have t:=H.m.ln;have N:ls≠[]:=fun e=>by rw[e]at u;simp at u
 have K1:=H.k.cons (p:=st.c) (x:=.cells 63 3 ls[i].cells false) (n:=st.c+2) (by omega) (by omega) (by omega);have S:ls[i].cells.length=3:=H.m.three _ (BH u);have T:Lp ((st.c,BJ.cells 63 3 ls[i].cells false)::st.h) 63 3 (.AU Dc 0 ls.length none) ls:=.ob Dc ls N H.m.three (by simp[AZ,show ¬st.c=Dc by omega,H.m.AP]);have K:∀p x,(p,x)∈st.h->p<st.c:=H.k.hb;obtain⟨A,f,B,K4,F,s⟩:=Om (bytes:=48) (id:=st.c+1) (e:=st.c) (x:=ls[i]) K1 T (fun p D=>by cases D;omega) (by omega) (by omega) (by omega) (by simp[AZ]) S
  (fun p y J=>by
   rcases BK.1 J with h|h
   ·cases h;omega
   ·have:=K p y h;omega) (by show st.c+1<st.c+2;omega) (by omega)
 have l:AA A.h (c+1)=some (.cells 29 3 [kv,.str g.Ai,.AU Dc 0 ls.length none] false):=by rw[s _ (by omega) (fun e=>by cases e;omega),AZ,AJ (by omega)];exact H.Tc
 have q:=DZ (st:=A) (off:=2) (v:=.AU (st.c+1) 0 (ls.length+1) none) l (by rw[K4.lo];have:=H.k.TW;omega) (by simp) rfl rfl;simp only[Jg,Jh]at q;have Q:AQ st.h (.AL (c+1) 2)=some (.AU Dc 0 ls.length none):=by rw[AR H.Tc];rfl
 have L:∀n,AY 3 (.AU Dc 0 ls.length none) (.int .i64 (i:Int)) ⟨st.h,n,st.lo⟩=some (.AL Dc (3*i),⟨st.h,n,st.lo⟩):=fun n=>XO (st:=⟨st.h,n,st.lo⟩) H.m.AP u;have d:=KT H.m.three (show ls[i]? =some (.agg [.str g.AP[i].left,w,.int .i64 g.AP[i].level]) by rw[Bu u,z]);have P:(ls.flatMap AV.cells).length=ls.length*3:=CP H.m.three;have R:Ak st.h (.AL Dc (3*i)) 3=some [.str g.AP[i].left,w,.int .i64 g.AP[i].level]:=by
  have V:Nat.ble (3*i+3) (ls.flatMap AV.cells).length=true:=Dv (by omega);simp only[Ak,H.m.AP,V,Ba,Ct];apply Kb;intro j;match j with
  |0=>simpa using d.1
  |1=>simpa using d.2.1
  |2=>simpa using d.2.2
  |j+3=>simp;omega
 have a3:=hw.one;rw[z]at f F;simp[AV.cells]at f;have a1:(C.f4L5=C.f4L5):=rfl;have Y:Bp [.str [],.AO,.int .i64 0] [(0,3)] [.agg [.str g.AP[i].left,w,.int .i64 g.AP[i].level]]=some [.str g.AP[i].left,w,.int .i64 g.AP[i].level]:=by simp[Bp,AV.isTuple,AV.cells,ble_eq,Bl]
 simp[C.f4L5,h3,h4,Q,L,R,BC,Y,blt_eq,beq_eq,Bb K,f,q,KL];have b:∀p,p<st.c->p≠c+1->p≠Dc->∀y,AA (Ah A.h (c+1) y) p=AA st.h p:=fun p h1 O h3 y=>by rw[Ag l,AJ (Aj O),s p (by omega) (fun e=>by cases e;omega),AZ,AJ (by omega)]
 have a5:=H.UY (h':=Ah A.h (c+1) (.cells 29 3 [kv,.str g.Ai,.AU (st.c+1) 0 (ls.length+1) none] false)) fun p h1 O=>b p O (by omega) (by omega) _;refine⟨{ g with AP:=g.AP++[g.AP[i]] },0,⟨by
  have eg:g.AP.getD i default=g.AP[i]:=by (simp[List.getD,U])
  rw[eg],rfl⟩,by omega,by omega,by rw[Int.add_zero];exact K4.Ah (by omega) l,by show c+2<=A.c;rw[B];show c+2<=st.c+2;omega,?_,⟨I.Ae,I.AB,I.Ai,by simp;omega,fun r U=>?_,by simp;omega⟩,kv,.AU (st.c+1) 0 (ls.length+1) none,ls++[ls[i]],?_,H.Um fun p D=>?_,Fu.Vm (by simp[t]) fun j hl a2=>?_,.inr ⟨st.c+1,none,63,true,[],by simp,by omega,?_⟩⟩
 ·show AA (Ah _ _ _) c=_;rw[b c (by omega) (by omega) (by omega)];exact H.pq
 ·rcases Ca.1 U with h|h
  ·exact I.AP r h
  ·simp at h;subst h;exact I.AP _ (BH _)
 ·show AA (Ah _ _ _) (c+1)=_;rw[Ag l,AX rfl]
 ·have:=H.Un D;exact b p (by omega) (by omega) (by omega) _
 ·have get:∀(m:Nat) (J:m<ls.length),Pg c (Ah A.h (c+1) (.cells 29 3 [kv,.str g.Ai,.AU (st.c+1) 0 (ls.length+1) none] false)) ls[m] (g.AP[m]'(by omega)):=fun m J=>H.mH J (by omega) fun p D=>by have:=(H.m.each m J (by omega)).2 p D;exact b p (by omega) (by omega) (by omega) _
  by_cases hj:j<ls.length
  ·simp only[IX hj,IX (show j<g.AP.length by omega)];exact get j hj
  ·have W:j=ls.length:=by simp at hl;omega
   subst W;have e1:(ls++[ls[i]])[ls.length]'(by simp)=ls[i]:=by simp
   have e2:(g.AP++[g.AP[i]])[ls.length]'(by simp[t])=g.AP[i]:=by simp[t]
   rw[e1,e2];exact get i u
 ·show AA (Ah _ _ _) (st.c+1)=_;rw[Ag l,AJ (by omega),F,Fh,z]
end
def JC:List AV:=[.str [],.AO,.int .i64 0]
theorem jM{c:List AV}(f:∀x∈c,x.cells.length=3){i:Nat}(k:i<c.length) :
 (c.flatMap AV.cells).take (3*i)=(c.take i).flatMap AV.cells/\(c.flatMap AV.cells).drop (3*i)=(c.drop i).flatMap AV.cells:=by
 have e:∀{l:List AV},(∀x∈l,x.cells.length=3)->∀i,(l.flatMap AV.cells).take (3*i)=(l.take i).flatMap AV.cells/\(l.flatMap AV.cells).drop (3*i)=(l.drop i).flatMap AV.cells:=by
  intro l;induction l with
  |nil=>intro _ i;simp
  |cons x l j=>
   intro h i;cases i with
   |zero=>simp
   |succ i=>have g:=h x (by simp);obtain⟨a,b⟩:=j (fun y d=>h y (by simp[d])) i;rw[Cn,List.take_append,List.drop_append,g,show 3*(i+1)-3=3*i by omega,a,b,Gx (by omega),OQ (by omega)];simp
 exact e f i
theorem uJ{h:Aa}{o:Nat}{x:BJ}(a:AA h o=some x):Ah h o x=h:=by
 induction h with
 |nil=>rfl
 |cons q h b=>
  obtain⟨i,z⟩:=q;rw[AZ]at a;simp only[Ah,beq_eq,Ad,Aw];by_cases e:i=o
  ·rw[AX e]at a⊢;cases a;rfl
  ·rw[AJ e]at a⊢;rw[b a]
theorem ZU(i:Nat):asNat (.int .i64 ((i:Int)+1))=some (i+1):=rfl
theorem nE{k b i:Nat}{st:St}{a:List AV}(o:AA st.h b=some (.cells 63 3 (a.flatMap AV.cells) true))(u:∀x∈a,x.cells.length=3)(a0:st.lo<=b)(v:i<a.length)(hn:a.length<=100) :
 Ab E (k+1) 22 [.AU b 0 a.length none,.int .i64 (i:Int),.int .i64 ((i:Int)+1)] st=.ret (.AU b 0 (a.length-1) none,{ st with h:=Ah st.h b (.cells 63 3 ((a.eraseIdx i).flatMap AV.cells++JC) true),c:=st.c+1 }):=by
 rw[Av (fn:=C.f22) rfl rfl rfl,Ap (by simp)];have d:(a.flatMap AV.cells).length=a.length*3:=CP u;have A:((i:Int)==(i:Int)+1)=false:=by simp;omega
 have Q:((i:Int)+1)=((i+1:Nat):Int):=by simp
 have P:∀e,DW 3 true true true [.AU b 0 a.length none,.int .i64 (i:Int),.int .i64 ((i:Int)+1),.int .i64 (a.length:Int)] ⟨st.h,e,st.lo⟩=some (.AU b (i*3) 1 (some (a.length-i)),⟨st.h,e,st.lo⟩):=fun e=>by
  have l:i+1<=a.length:=by omega
  have D:i<=i+1:=by omega
  have H:i+1-i=1:=by omega
  simp[DW,Gi,Bg,ZU,l,D,H,GK,o,He,blt_eq,ble_eq,d]
 have J:∀e,DW 3 false true false [.AU b 0 a.length none,.int .i64 (i:Int)] ⟨st.h,e,st.lo⟩=some (.AU b 0 i none,⟨st.h,e,st.lo⟩):=fun e=>by
  have l:i<=a.length:=by omega
  have h5:i*3<=a.length*3:=by omega
  simp[DW,Gi,Bg,h5,GK,o,He,blt_eq,ble_eq,d]
 have K:∀e,DW 3 true false false [.AU b 0 a.length none,.int .i64 ((i:Int)+1)] ⟨st.h,e,st.lo⟩=some (.AU b ((i+1)*3) (a.length-(i+1)) none,⟨st.h,e,st.lo⟩):=fun e=>by
  have l:i+1<=a.length:=by omega
  simp[DW,Gi,ZU,l,GK,o,He,blt_eq,ble_eq,d]
 obtain⟨Z,Y⟩:=jM u (i:=i) v;have y:(a.flatMap AV.cells).drop ((i+1)*3)=(a.drop (i+1)).flatMap AV.cells:=by rw[show (i+1)*3=3*i+3 by omega,←List.drop_drop,Y];have:a.drop i=a[i]::a.drop (i+1):=MP v;rw[this,Cn,List.drop_append,u _ (BH v),OQ (by rw[u _ (BH v)];omega)];simp
 have T:(a.flatMap AV.cells).take (i*3)=(a.take i).flatMap AV.cells:=by rw[Nat.mul_comm];exact Z
 have F:a.eraseIdx i=a.take i++a.drop (i+1):=List.eraseIdx_eq_take_drop_succ a i;have I:(a.eraseIdx i).length=a.length-1:=List.length_eraseIdx_of_lt v;have W:((a.eraseIdx i).flatMap AV.cells).length=(a.length-1)*3:=by rw[CP (fun x L=>u x (List.mem_of_mem_eraseIdx L)),I]
 have q:((a.drop (i+1)).flatMap AV.cells).length=(a.length-(i+1))*3:=by rw[CP (fun x L=>u x (NC L)),IV]
 obtain⟨f,O,j⟩:∃f:List AV,f.length=3/\Bl (a.flatMap AV.cells) (i*3) ((a.drop (i+1)).flatMap AV.cells)=(a.eraseIdx i).flatMap AV.cells++f:=by
  refine⟨(a.flatMap AV.cells).drop (i*3+((a.drop (i+1)).flatMap AV.cells).length),?_,?_⟩
  ·rw[IV,d,q];omega
  ·rw[Bl,T,F,KH,Hz]
 have w:∀e,Bq st.c 63 3 48 (.AU b 0 i none) (.AU b ((i+1)*3) (a.length-(i+1)) none) ⟨st.h,e,st.lo⟩=some (.AU b 0 (a.length-1) none,⟨Ah st.h b (.cells 63 3 ((a.eraseIdx i).flatMap AV.cells++f) true),e,st.lo⟩):=fun e=>by
  have N:BS st.h 3 (a.length-(i+1)) (.AU b ((i+1)*3) (a.length-(i+1)) none)=some ((a.drop (i+1)).flatMap AV.cells):=by
   have l:(i+1)*3+(a.length-(i+1))*3<=(a.flatMap AV.cells).length:=by rw[d];omega
   simp only[BS,o,ble_eq,l,Ff,Ao,y];simp only[show Nat.beq 3 3=true from rfl,FN,Ba,Ct];exact Gx (by rw[q];exact Ao _)
  simp only[Bq,lenOf,N,CX,show Nat.beq 3 0=false from rfl,Bj];by_cases hm:a.length-(i+1)=0
  ·have:a.length-1=i:=by omega
   have m:Bl (a.flatMap AV.cells) (i*3) ((a.drop (i+1)).flatMap AV.cells)=a.flatMap AV.cells:=by have:a.drop (i+1)=[]:=OQ (by omega);rw[this];simp[Bl]
   rw[hm,this,←j,m,uJ o];rfl
  ·have R:Nat.beq (a.length-(i+1)) 0=false:=by rw[beq_eq];simpa using hm
   have U:Nat.ble (0+i*3) (a.flatMap AV.cells).length=true:=Dv (by omega);have S:Nat.ble (0+(i+(a.length-(i+1)))*3) (a.flatMap AV.cells).length=true:=Dv (by omega);have t:Nat.blt b st.lo=false:=by rw[blt_eq];simp;omega
   have s:Nat.ble (0+i*3+((a.drop (i+1)).flatMap AV.cells).length) (a.flatMap AV.cells).length=true:=Dv (by rw[q];omega);simp only[R,Bj,GG,o,show Nat.beq 63 63=true from rfl,show Nat.beq 3 3=true from rfl,U,S,FN,Ba,CO,t,s];rw[Dz,j,show i+(a.length-(i+1))=a.length-1 by omega]
 have r:AA (Ah st.h b (.cells 63 3 ((a.eraseIdx i).flatMap AV.cells++f) true)) b=some (.cells 63 3 ((a.eraseIdx i).flatMap AV.cells++f) true):=by rw[Ag o,AX rfl]
 have g:((a.eraseIdx i).flatMap AV.cells++f).length=a.length*3:=by rw[Bd,W,O];omega
 have B:∀e,DW 3 true true false [.AU b 0 (a.length-1) none,.int .i64 ((a.length-1:Nat):Int),.int .i64 (a.length:Int)] ⟨Ah st.h b (.cells 63 3 ((a.eraseIdx i).flatMap AV.cells++f) true),e,st.lo⟩=some (.AU b ((a.length-1)*3) 1 none,⟨Ah st.h b (.cells 63 3 ((a.eraseIdx i).flatMap AV.cells++f) true),e,st.lo⟩):=fun e=>by
  have l:Nat.ble (a.length-1) a.length=true:=Dv (by omega);have D:Nat.ble (a.length*3) ((a.eraseIdx i).flatMap AV.cells++f).length=true:=Dv (by omega);have H:a.length-(a.length-1)=1:=by omega
  simp only[DW,Gi,Bg,GK,r,He,show Nat.beq 3 3=true from rfl,show Nat.blt 0 3=true from rfl,FN,Ba,KG,l,D,H,LY,Dz]
 have V:∀e,Lu [.str [],.AO,.int .i64 0] (.AU b ((a.length-1)*3) 1 none) ⟨Ah st.h b (.cells 63 3 ((a.eraseIdx i).flatMap AV.cells++f) true),e,st.lo⟩=some (.tuple [],⟨Ah st.h b (.cells 63 3 ((a.eraseIdx i).flatMap AV.cells++JC) true),e,st.lo⟩):=fun e=>by
  have t:Nat.blt b st.lo=false:=by rw[blt_eq];simp;omega
  have s:Nat.ble ((a.length-1)*3+JC.length) ((a.eraseIdx i).flatMap AV.cells++f).length=true:=Dv (by rw[g];show (a.length-1)*3+3<=_;omega);have m:Bl ((a.eraseIdx i).flatMap AV.cells++f) ((a.length-1)*3) JC=(a.eraseIdx i).flatMap AV.cells++JC:=by unfold Bl;rw[TG (by omega),Gx (by omega),OQ (by rw[g];show _<=(a.length-1)*3+3;omega),Fh]
  simp only[Lu,show Nat.beq 1 0=false from rfl,Bj,r];show (bif Nat.beq 3 3 then Fs (.tuple []) (CO _ b ((a.length-1)*3) JC) else none)=_;simp only[show Nat.beq 3 3=true from rfl,Ba,CO,t,Bj,r,s,m,Fs,WC]
 have z:∀n p,BZ .slice (.AU b 0 n none) p=some (.int .i64 (n:Int),p):=fun n p=>rfl;simp[C.f22,z,P,A,J,K,w,B,V,Al,results,Af]
section
variable {c o:Nat}{vs:AV}{zs:List Int}{a:Int}{st0 st:St}{g:Ac}{kv:AV}{Dc:Nat}{ls:List AV}{ts:TS}{k:Nat}
def zG(g:Ac)(i:Nat)(g':Ac)(m:Int):Prop:=g'={ g with AP:=g.AP.eraseIdx i }/\m=0
theorem AD6(T:0<=a/\a<100000)(H:GS c o vs a st0 st g kv Dc ls)(q:g.Small)(y:ts.get 3=.AL (c+1) 0){i:Nat}(D:i<ls.length)(L:ts.get 4=.int .i64 (i:Int)) :
 (Bc E (Ab E (k+3)) C.f4L1 ts st).to (KL (zG g i) c o vs a st0 ts):=by
 have F:=H.m.Rc;have I:=H.k.oc;have K:=H.cc;have O:=H.m.ln;have A:=q.many;have Jv:=nE (k:=k+2) (st:=st) (i:=i) H.m.AP H.m.three (by rw[H.k.lo];have:=H.k.TW;omega) D (by omega);have j:=H.k.Ah (p:=Dc) (x:=.cells 63 3 ((ls.eraseIdx i).flatMap AV.cells++JC) true) (by omega) H.m.AP;have J:Fa c o vs a st0 { st with h:=Ah st.h Dc (.cells 63 3 ((ls.eraseIdx i).flatMap AV.cells++JC) true),c:=st.c+1 }:=
  ⟨fun p x Q=>Nat.lt_succ_of_lt (j.hb p x Q),j.lo,j.TW,j.oc,j.Kj,j.CY,j.mem⟩
 have b:AA (Ah st.h Dc (.cells 63 3 ((ls.eraseIdx i).flatMap AV.cells++JC) true)) (c+1)=some (.cells 29 3 [kv,.str g.Ai,.AU Dc 0 ls.length none] false):=by rw[Ag H.m.AP,AJ (by omega)];exact H.Tc
 have f:=DZ (st:={ st with h:=Ah st.h Dc (.cells 63 3 ((ls.eraseIdx i).flatMap AV.cells++JC) true),c:=st.c+1 }) (off:=2) (v:=.AU Dc 0 (ls.length-1) none) b (by show st.lo<=c+1;rw[H.k.lo];have:=H.k.TW;omega) (by simp) rfl rfl;simp only[Jg,Jh]at f;have z:AQ st.h (.AL (c+1) 2)=some (.AU Dc 0 ls.length none):=by rw[AR H.Tc];rfl
 simp[C.f4L1,y,L,z,wi i,Jv,f,KL];have d:∀p,p≠c+1->p≠Dc->AA (Ah (Ah st.h Dc (.cells 63 3 ((ls.eraseIdx i).flatMap AV.cells++JC) true)) (c+1) (.cells 29 3 [kv,.str g.Ai,.AU Dc 0 (ls.length-1) none] false)) p=AA st.h p:=fun p B y=>by rw[Ag b,AJ (Aj B),Ag H.m.AP,AJ (Aj y)]
 have s:=H.UY (h':=Ah (Ah st.h Dc (.cells 63 3 ((ls.eraseIdx i).flatMap AV.cells++JC) true)) (c+1) (.cells 29 3 [kv,.str g.Ai,.AU Dc 0 (ls.length-1) none] false)) fun p S B=>d p (by omega) (by omega);have u:(ls.eraseIdx i).length=ls.length-1:=List.length_eraseIdx_of_lt D;have e:∀{l:List AV} {w:List Dw} {h:Aa},Fu c h l w->∀i,Fu c h (l.eraseIdx i) (w.eraseIdx i):=by
  intro l w h H;induction H with
  |nil=>intro i;exact .nil
  |cons a t R=>
   intro i;cases i with
   |zero=>exact t
   |succ i=>exact .cons a (R i)
 refine⟨{ g with AP:=g.AP.eraseIdx i },0,⟨rfl,rfl⟩,by omega,by omega,by rw[Int.add_zero];exact J.Ah (by omega) b,by show c+2<=st.c+1;omega,?_,⟨q.Ae,q.AB,q.Ai,by rw[List.length_eraseIdx];split<;>omega,fun r P=>q.AP r (List.mem_of_mem_eraseIdx P),by have:=q.few;show g.Ae.length+(g.AP.eraseIdx i).length<=12;rw[List.length_eraseIdx];split<;>omega⟩,kv,.AU Dc 0 (ls.length-1) none,ls.eraseIdx i,?_,H.Um fun p N=>?_,e s i,.inr ⟨Dc,none,63,true,JC,by rw[u],by omega,?_⟩⟩
 ·show AA (Ah _ _ _) c=_;rw[d c (by omega) (by omega)];exact H.pq
 ·show AA (Ah _ _ _) (c+1)=_;rw[Ag b,AX rfl]
 ·have:=H.Un N;exact d p (by omega) (by omega)
 ·show AA (Ah _ _ _) Dc=_;rw[Ag b,AJ (by omega),Ag H.m.AP,AX rfl]
end
theorem AFX{k:Nat}{st:St}:Ab E (k+2) 45 [.int .u64 1,.int .u64 20] st=.ret (.tuple [.int .u64 0,.int .u64 20],st):=by kernel_rfl
theorem AFW{k:Nat}{st:St}:Ab E (k+2) 45 [.int .u64 1,.int .u64 21] st=.ret (.tuple [.int .u64 0,.int .u64 21],st):=by kernel_rfl
def filled(s:Bz)(m n:Nat):List AV:=List.replicate m (.str s)++List.replicate (n-m) (.str [])
theorem Zu{s:Bz}{m n:Nat}(h:m<=n):(filled s m n).length=n:=by simp[filled];omega
theorem RU(v:AV):∀n,FZ [v] n=List.replicate n v
 |0=>rfl
 |n+1=>by rw[FZ,RU v n];rfl
theorem fu{k id n:Nat}{st:St}{s:Bz}(A:st.lo<=id)(f:∃x,AA st.h id=some x)(K:n<=100)(d:TS)(l:d.get 7=.AU id 0 n (some n))(i:d.get 8=.int .i64 ((1:Nat):Int))(u:1<=n) :
 (Dm (Bc E (Ab E k) C.f21L0) E.k d { st with h:=Ah st.h id (.cells 9 1 (filled s 1 n) false) }).to fun r=>r.1=.exit 0/\r.2.1.get 7=.AU id 0 n (some n)/\r.2.2={ st with h:=Ah st.h id (.cells 9 1 (filled s n n) false) }:=by
 obtain⟨J,t⟩:=f;refine Cy (fun (m:Nat) d g=>1<=m/\m<=n/\d.get 7=.AU id 0 n (some n)/\d.get 8=.int .i64 (m:Int)/\g={ st with h:=Ah st.h id (.cells 9 1 (filled s m n) false) })
  (fun m=>n-m) ?_ _ 1 _ _ ?_ ?_
 ·rintro m d g ⟨H,e,l,i,rfl⟩;have f:AA (Ah st.h id (.cells 9 1 (filled s m n) false)) id=some (.cells 9 1 (filled s m n) false):=by rw[Ag t,AX rfl]
  have o:=Zu (s:=s) e;by_cases Bi:m<n
  ·have z:∀a,DW 1 true false false [.AU id 0 n (some n),.int .i64 (m:Int)] ⟨Ah st.h id (.cells 9 1 (filled s m n) false),a,st.lo⟩=some (.AU id m (n-m) (some (n-m)),⟨Ah st.h id (.cells 9 1 (filled s m n) false),a,st.lo⟩):=fun a=>by simp[DW,Gi,Bg,GK,f,He,blt_eq,ble_eq,e]
   have I:∀a,DW 1 false true false [.AU id 0 n (some n),.int .i64 (m:Int)] ⟨Ah st.h id (.cells 9 1 (filled s m n) false),a,st.lo⟩=some (.AU id 0 m (some n),⟨Ah st.h id (.cells 9 1 (filled s m n) false),a,st.lo⟩):=fun a=>by simp[DW,Gi,Bg,GK,f,He,blt_eq,ble_eq,e]
   have b:Nat.min m (n-m)=if m<=n-m then m else n-m:=by simp[Nat.min_def]
   have B:∀a,Qm 1 (.AU id m (n-m) (some (n-m))) (.AU id 0 m (some n)) ⟨Ah st.h id (.cells 9 1 (filled s m n) false),a,st.lo⟩=some (.int .i64 ((Nat.min m (n-m):Nat):Int),⟨Ah st.h id (.cells 9 1 (filled s (m+Nat.min m (n-m)) n) false),a,st.lo⟩):=fun a=>by
    have j:Nat.min m (n-m)<=m/\Nat.min m (n-m)<=n-m/\Nat.min m (n-m)≠0:=by rw[b];split<;>omega
    obtain⟨q,c⟩:∃q,Nat.min m (n-m)=q:=⟨_,rfl⟩;rw[c]at j;rw[c];have u:Nat.ble q m=true:=Dv j.1;have w:Nat.ble (0+q*1) (filled s m n).length=true:=Dv (by omega);have p:((filled s m n).drop 0).take (q*1)=List.replicate q (.str s):=by rw[FB,Fe,filled,TG (by simp;omega),List.take_replicate];congr 1;omega
    have y:Nat.beq q 0=false:=by rw[beq_eq];simpa using j.2.2
    have D:Nat.blt id st.lo=false:=by rw[blt_eq];simp;omega
    have F:Nat.ble (m+(List.replicate q (AV.str s)).length) (filled s m n).length=true:=Dv (by simp;omega);have v:Bl (filled s m n) m (List.replicate q (.str s))=filled s (m+q) n:=by unfold Bl filled;rw[TG (by simp),Gx (by simp),List.drop_append,OQ (by simp),JJ,List.length_replicate,List.length_replicate,List.drop_replicate,←Hz,List.replicate_append_replicate];congr 2;omega
    simp only[Qm,lenOf,c];simp only[BS,f,show Nat.beq 1 1=true from rfl,u,w,FN,Ba,p,y,Bj,CO,D,F,v,Fs,WC]
   have j:Nat.min m (n-m)<=n-m/\1<=Nat.min m (n-m):=by rw[b];split<;>omega
   simp[C.f21L0,l,i,BZ,CV,Bi,z,I,B,wrap64 (n:=(m:Int)+(Nat.min m (n-m):Nat)) (by omega) (by omega)];exact⟨m+Nat.min m (n-m),by omega,by omega,by omega,by simp,rfl⟩
  ·have:m=n:=by omega
   subst this;simp[C.f21L0,l,i,BZ,CV]
 ·exact FX (by show n-1<1000000;omega)
 ·exact⟨Ao _,u,l,i,rfl⟩
theorem wP{k e n:Nat}{st:St}{s:Bz}(H:HB st)(u:st.lo<=st.c)(N:AA st.h e=some (.cells 9 1 [.str s] false))(V:e<st.c)(F:n=20∨n=21) :
 Ab E (k+3) 21 [.AU e 0 1 (some 1),.int .i64 (n:Int)] st=.ret (.AU st.c 0 n (some n),⟨(st.c,.cells 9 1 (List.replicate n (.str s)) false)::st.h,st.c+1,st.lo⟩):=by
 rw[Av (fn:=C.f21) rfl rfl rfl,Ap (by simp)];have B:∀p x,(p,x)∈st.h->p<st.c:=H;have j:∀f,Ab E (k+2) 45 [.int .u64 1,.int .u64 (n:Int)] f=.ret (.tuple [.int .u64 0,.int .u64 (n:Int)],f):=fun f=>by
  rcases F with rfl|rfl
  ·exact AFX
  ·exact AFW
 have g:n<=100:=by omega
 have d:n*16<=room/\n<=room:=by unfold room;constructor<;>omega
 have K:IntKind.u64.wrap ((n:Nat):Int)=n:=by rcases F with rfl|rfl<;>rfl
 have L:IntKind.i64.wrap ((n:Nat):Int)=n:=wrap64 (by omega) (by omega);have I:IntKind.u64.wrap ((1:Nat):Int)=1:=rfl;have m:IntKind.u64.wrap 1=1:=rfl;have S:bin .gtr (.int .u64 0) (.int .u64 0)=some (.bool false):=rfl;have O:bin .gtr (.int .u64 (n:Int)) (.int .u64 9223372036854775807)=some (.bool false):=by show some (AV.bool (decide ((9223372036854775807:Int)<n)))=_;rw[FP (by omega)]
 have o:∀y,Qm 1 (.AU st.c 0 n (some n)) (.AU e 0 1 (some 1)) ⟨(st.c,.cells 9 1 (List.replicate n (.str [])) false)::st.h,y,st.lo⟩=some (.int .i64 1,⟨Ah ((st.c,.cells 9 1 (List.replicate n (.str [])) false)::st.h) st.c (.cells 9 1 (filled s 1 n) false),y,st.lo⟩):=fun y=>by
  have U:Nat.min 1 n=1:=by simp[Nat.min_def];omega
  have R:AA ((st.c,BJ.cells 9 1 (List.replicate n (.str [])) false)::st.h) e=some (.cells 9 1 [.str s] false):=by rw[AZ,AJ (by omega)];exact N
  have A:AA ((st.c,BJ.cells 9 1 (List.replicate n (.str [])) false)::st.h) st.c=some (.cells 9 1 (List.replicate n (.str [])) false):=by rw[AZ,AX rfl]
  have J:Nat.blt st.c st.lo=false:=by rw[blt_eq];simp;omega
  have Q:Nat.ble (0+1) (List.replicate n (AV.str [])).length=true:=Dv (by simp;omega);have t:Bl (List.replicate n (AV.str [])) 0 [.str s]=filled s 1 n:=by simp[Bl,filled]
  simp only[Qm,lenOf,U];simp only[BS,R];have q:(Nat.beq 1 1&&Nat.ble 1 1&&Nat.ble (0+1*1) [AV.str s].length)=true:=rfl;have v:([AV.str s].drop 0).take (1*1)=[.str s]:=rfl;rw[q];simp only[Ba,v];simp only[show Nat.beq 1 0=false from rfl,Bj,A,show Nat.beq 1 1=true from rfl,Ba,CO,J,Fq,Q,t,Fs];rfl
 have i:=fun D a b=>fu (k:=k+2) (st:=⟨(st.c,.cells 9 1 (List.replicate n (.str [])) false)::st.h,st.c+1,st.lo⟩) (id:=st.c) (n:=n) (s:=s) u ⟨_,by rw[AZ,AX rfl]⟩ g D a b (by omega);have w:Dy st.c 9 1 16 [.str []] (.int .i64 (n:Int)) (.int .i64 (n:Int))=some (.AU st.c 0 n (some n),.cells 9 1 (List.replicate n (.str [])) false):=by simp[Dy,Bg,ble_eq,blt_eq,d.1,d.2,RU]
 have l:¬((n:Int)<0):=by omega
 apply M.to_eq;simp[C.f21,l,BZ,CV,m,K,L,j,S,O,RH,w,Bb B,o];refine M.BG (i _ (by simp) (by simp)) fun r T=>?_;obtain⟨x,D,f⟩:=r;obtain⟨rfl,P,rfl⟩:=T;have z:filled s n n=List.replicate n (.str s):=by simp[filled]
 simp[P,Al,results,Af,Ah,z]
theorem ZZ.AFV{c id ty:Nat}{h:Aa}{l:List Bz}{cap:Option Nat}{ext:Bool}(a:AA h id=some (.cells ty 1 (Bf l) ext))(b:c<id):ZZ c h (.AU id 0 l.length cap) l:=
 Or.inr ⟨id,cap,ty,ext,rfl,b,a⟩
section
variable {c o:Nat}{vs:AV}{zs:List Int}{a:Int}{st0 st:St}{g:Ac}{kv:AV}{Dc:Nat}{ls:List AV}{ts:TS}{k:Nat}
def zH(zs:List Int)(b:Int)(g:Ac)(i:Nat)(g':Ac)(m:Int):Prop:=∃s:Nat,Drw zs b [.int .i64 20,.int .i64 21] (.int .i64 (s:Int))/\g'={ g with AP:=g.AP.set i ⟨(g.AP.getD i default).left,List.replicate s (g.AP.getD i default).left,(g.AP.getD i default).level⟩ }/\m=1
theorem AD7(hv:GI vs zs)(ha:0<=a/\a<100000)(H:GS c o vs a st0 st g kv Dc ls)(hs:g.Small)(h0:ts.get 0=.AL o 0)(R:ts.get 3=.AL (c+1) 0){i:Nat}(t:i<ls.length)(h4:ts.get 4=.int .i64 (i:Int)) :
 (Bc E (Ab E (k+3)) C.f4L2 ts st).to (KL (zH zs a g i) c o vs a st0 ts):=by
 obtain⟨hr,w,D,hw⟩:=H.FJ t;have a2:=H.m.Rc;have a3:=H.k.oc;have a4:=H.cc;have Z:∀p x,(p,x)∈st.h->p<st.c:=H.k.hb;have K0:=H.k.cons (p:=st.c) (x:=.cells 9 1 [.str g.AP[i].left] false) (n:=st.c+1) (by omega) (by omega) (by omega);have N:=K0.cons (p:=st.c+1) (x:=.cells 3 1 [.int .i64 20,.int .i64 21] false) (n:=st.c+2) (by omega) (by omega) (by show st.c+1<=st.c+2;omega);have V:∀p x,(p,x)∈(st.c,BJ.cells 9 1 [.str g.AP[i].left] false)::st.h->p<st.c+1:=K0.hb;have a0:AA ((st.c+1,BJ.cells 3 1 [.int .i64 20,.int .i64 21] false)::(st.c,BJ.cells 9 1 [.str g.AP[i].left] false)::st.h) (st.c+1)=some (.cells 3 1 [.int .i64 20,.int .i64 21] false):=by simp[AZ]
 have b:=wT (k:=k) N.st hv (by omega) (Nw (cap:=some 2) a0 (show st.c+1≠o by omega)) (by simp) (by simp);obtain⟨n,J,hn⟩:∃n:Nat,[AV.int .i64 20,.int .i64 21].getD (Br zs (a+1) [AV.int .i64 20,.int .i64 21].length).toNat .undef=.int .i64 (n:Int)/\(n=20∨n=21):=by
  have:=OC (zs:=zs) (a:=a) (l:=[AV.int .i64 20,.int .i64 21]) (by simp);generalize List.getD _ _ _=x at this;simp only[BK,Ju,Jp]at this;rcases this with rfl|rfl
  ·exact⟨20,rfl,.inl rfl⟩
  ·exact⟨21,rfl,.inr rfl⟩
 rw[J]at b;have B:=N.tick (a+1);generalize r:tick ⟨(st.c+1,BJ.cells 3 1 [.int .i64 20,.int .i64 21] false)::(st.c,BJ.cells 9 1 [.str g.AP[i].left] false)::st.h,st.c+2,st.lo⟩ o vs (a+1)=S2 at B b;have a1:S2.c=st.c+2:=by rw[←r];rfl
 have u:∀p,p<st.c->p≠o->AA S2.h p=AA st.h p:=fun p I z=>by rw[←r,Gp N.Kj z];simp[AZ,show ¬st.c=p by omega,show ¬st.c+1=p by omega]
 have W:AA S2.h st.c=some (.cells 9 1 [.str g.AP[i].left] false):=by rw[←r,Gp N.Kj (by omega)];simp[AZ]
 have K:=wP (k:=k) (st:=S2) B.hb (by rw[B.lo];have:=H.k.TW;omega) W (by omega) hn;have K3:=B.cons (p:=S2.c) (x:=.cells 9 1 (List.replicate n (.str g.AP[i].left)) false) (n:=S2.c+1) (by omega) (by omega) (by omega);have f:∀p,p<st.c->p≠o->AA ((S2.c,BJ.cells 9 1 (List.replicate n (.str g.AP[i].left)) false)::S2.h) p=AA st.h p:=fun p I z=>by rw[AZ,AJ (by omega)];exact u p I z
 have d:AA ((S2.c,BJ.cells 9 1 (List.replicate n (.str g.AP[i].left)) false)::S2.h) Dc=some (.cells 63 3 (ls.flatMap AV.cells) true):=by rw[f Dc (by omega) (by omega)];exact H.m.AP
 have A:AA S2.h Dc=some (.cells 63 3 (ls.flatMap AV.cells) true):=by rw[u Dc (by omega) (by omega)];exact H.m.AP
 have U:AA S2.h (c+1)=some (.cells 29 3 [kv,.str g.Ai,.AU Dc 0 ls.length none] false):=by rw[u _ (by omega) (by omega)];exact H.Tc
 have F:AA ((S2.c,BJ.cells 9 1 (List.replicate n (.str g.AP[i].left)) false)::S2.h) (c+1)=some (.cells 29 3 [kv,.str g.Ai,.AU Dc 0 ls.length none] false):=by rw[f _ (by omega) (by omega)];exact H.Tc
 have s:(ls.flatMap AV.cells).length=ls.length*3:=CP H.m.three;have j:=KT H.m.three (show ls[i]? =some (.agg [.str g.AP[i].left,w,.int .i64 g.AP[i].level]) by rw[Bu t,D]);have q:=DZ (st:=⟨(S2.c,.cells 9 1 (List.replicate n (.str g.AP[i].left)) false)::S2.h,S2.c+1,S2.lo⟩) (off:=3*i+1) (v:=.AU S2.c 0 n (some n)) d (by show S2.lo<=Dc;rw[B.lo];have:=H.k.TW;omega) (by rw[s];omega) rfl rfl;rw[Nl H.m.three (show ls[i]? =some (.agg [.str g.AP[i].left,w,.int .i64 g.AP[i].level]) by rw[Bu t,D])]at q;have S:AQ st.h (.AL (c+1) 2)=some (.AU Dc 0 ls.length none):=by rw[AR H.Tc];rfl
 have P:AQ S2.h (.AL (c+1) 2)=some (.AU Dc 0 ls.length none):=by rw[AR U];rfl
 have Y:AQ ((S2.c,BJ.cells 9 1 (List.replicate n (.str g.AP[i].left)) false)::S2.h) (.AL (c+1) 2)=some (.AU Dc 0 ls.length none):=by rw[AR F];rfl
 have T:AQ st.h (.AL Dc (3*i))=some (.str g.AP[i].left):=by rw[AR H.m.AP];exact j.1
 have Q:AQ S2.h (.AL Dc (3*i))=some (.str g.AP[i].left):=by rw[AR A];exact j.1
 have O:∀n,AY 3 (.AU Dc 0 ls.length none) (.int .i64 (i:Int)) ⟨st.h,n,st.lo⟩=some (.AL Dc (3*i),⟨st.h,n,st.lo⟩):=fun n=>XO (st:=⟨st.h,n,st.lo⟩) H.m.AP t;have L:∀m l,AY 3 (.AU Dc 0 ls.length none) (.int .i64 (i:Int)) ⟨(S2.c,.cells 9 1 (List.replicate n (.str g.AP[i].left)) false)::S2.h,m,l⟩=some (.AL Dc (3*i),⟨(S2.c,.cells 9 1 (List.replicate n (.str g.AP[i].left)) false)::S2.h,m,l⟩):=fun m l=>XO (st:=⟨_,m,l⟩) d t;simp at b;simp[C.f4L2,h0,R,h4,KJ,MQ,Cc,Ci,DK,Dx,S,P,Y,T,Q,O,XO A t,AV.DU,BC,blt_eq,beq_eq,ble_eq,Bp,Bl,AV.isTuple,AV.cells,Bb Z,Bb V,b,K,L,q,KL];have e:∀p,p<st.c->p≠o->p≠Dc->∀y,AA (Ah ((S2.c,BJ.cells 9 1 (List.replicate n (.str g.AP[i].left)) false)::S2.h) Dc y) p=AA st.h p:=fun p I z R y=>by rw[Ag d,AJ (Aj R)];exact f p I z
 have eg:g.AP.getD i default=g.AP[i]:=by simp[List.getD,hr]
 refine⟨_,1,⟨n,J,by rw[eg],rfl⟩,by omega,by omega,H.XZ hs (a':=a+1) t (r':=⟨g.AP[i].left,List.replicate n g.AP[i].left,g.AP[i].level⟩) (v':=.agg [.str g.AP[i].left,.AU S2.c 0 n (some n),.int .i64 g.AP[i].level]) (K3.Ah (by omega) d) (by show c+2<=S2.c+1;omega) ?_ ?_ ?_ (fun p hp=>?_) (fun p I z h5=>?_) ?_ ?_⟩
 ·show AA (Ah _ _ _) (c+1)=_;rw[Ag d,AJ (by omega)];exact F
 ·exact e c (by omega) (by omega) (by omega) _
 ·show AA (Ah _ _ _) Dc=_;rw[Ag d,AX rfl]
 ·have:=H.Un hp;exact e p (by omega) (by omega) (by omega) _
 ·exact e p (by omega) (by omega) (by omega) _
 ·refine⟨_,rfl,?_⟩;have:=ZZ.AFV (c:=c) (id:=S2.c) (l:=List.replicate n g.AP[i].left) (cap:=some n) (ty:=9) (ext:=false) (h:=Ah ((S2.c,BJ.cells 9 1 (List.replicate n (.str g.AP[i].left)) false)::S2.h) Dc (.cells 63 3 ((ls.set i (.agg [.str g.AP[i].left,.AU S2.c 0 n (some n),.int .i64 g.AP[i].level])).flatMap AV.cells) true)) (by rw[Ag d,AJ (by omega)];simp[AZ,Bf]) (by omega)
  simpa using this
 ·have:=hs.AP _ (BH hr);refine⟨this.left,by simp;omega,fun x hx=>?_,this.level⟩;rw[List.eq_of_mem_replicate hx];exact this.left
end
def HO(st:St):Prop:=∀p x,(p,x)∈st.h->BJ.CY st.c x=true
theorem Qr{st:St}{o:Nat}{y:BJ}(b:AA st.h o=none):∃a,BA o y st=some { st with h:=a }/\(∀p,AA a p=if o=p then some y else AA st.h p)/\∀p x,(p,x)∈a->(p=o/\x=y)∨(p,x)∈st.h:=by
 have key:∀h:Aa,AA h o=none->∃a,Qw h o y=some a/\∀p x,(p,x)∈a->(p=o/\x=y)∨(p,x)∈h:=by
  intro h;induction h with
  |nil=>intro _;exact⟨[(o,y)],rfl,fun p x d=>by simp at d;exact .inl d⟩
  |cons q h k=>
   obtain⟨i,z⟩:=q;intro b;rw[AZ]at b;simp only[Qw,blt_eq,beq_eq,Ad,Aw];by_cases h1:i<o
   ·rw[AX h1];exact⟨_,rfl,fun p x d=>by
     rcases BK.1 d with c|c
     ·cases c;exact .inl ⟨rfl,rfl⟩
     ·exact .inr c⟩
   ·rw[AJ h1];by_cases c:i=o
    ·rw[AX c]at b;cases b
    ·rw[AJ c]at b⊢;obtain⟨a,e,j⟩:=k b;rw[e];exact⟨_,rfl,fun p x d=>by
      rcases BK.1 d with f|f
      ·cases f;exact .inr (by simp)
      ·rcases j p x f with g|g
       ·exact .inl g
       ·exact .inr (by simp[g])⟩
 obtain⟨a,e,j⟩:=key st.h b;exact⟨a,by unfold BA;rw[e],fun p=>LD e p,j⟩
theorem LX{c p:Nat}{h:Aa}{x:BJ}(a:(p,x)∈Kc c h):(p,x)∈h/\p<c:=by
 induction h with
 |nil=>simp[Kc]at a
 |cons q h d=>
  obtain⟨i,z⟩:=q;simp only[Kc,ble_eq,Ad,Aw]at a;by_cases e:c<=i
  ·rw[AX e]at a;have:=d a;exact⟨by simp[this.1],this.2⟩
  ·rw[AJ e]at a;rcases BK.1 a with b|b
   ·cases b;exact⟨by simp,by omega⟩
   ·have:=d b;exact⟨Cu _ this.1,this.2⟩
theorem holds_of{c:Nat}:∀{h:Aa},(∀p x,(p,x)∈h->p<c/\BJ.CY c x=true)->holds c h=true
 |[],_=>rfl
 |(i,x)::h,H=>by have a:=H i x (by simp);have d:=holds_of (h:=h) fun p y b=>H p y (Cu _ b);simp[holds,blt_eq,a.1,a.2,d]
theorem yA{v:AV}{zs:List Int}(a:GI v zs)(c:Nat):v.CY c=true:=by
 rcases a.sl.out with⟨rfl,_⟩|⟨t,rfl⟩
 ·rfl
 ·show AV.Dq c _=true;clear a;induction zs with
  |nil=>rfl
  |cons z zs b=>simpa [AV.Dq,AV.CY]using b
section
variable {c o:Nat}{vs:AV}{zs:List Int}{a:Int}{st0 st:St}{g:Ac}
theorem Fa.AFU(K:Fa c o vs a st0 st)(i:c=st0.c)(g:GI vs zs)(f:HO st0):∀p x,(p,x)∈st.h->p<c->BJ.CY c x=true:=fun p x e d=>by
 rcases K.mem p x e d with h|⟨_,b,rfl⟩
 ·rw[i];exact f p x h
 ·simp[BJ.CY,AV.Dq,yA g,AV.CY]
theorem Fa.drop(K:Fa c o vs a st0 st):Fa c o vs a st0 { st with h:=Kc c st.h,c:=c } where
 hb:=fun p x d=>(LX d).2
 lo:=K.lo
 TW:=K.TW
 oc:=K.oc
 Kj:=by show AA (Kc c st.h) o=_;rw[Mo K.oc];exact K.Kj
 CY:=fun p b e=>by show AA (Kc c st.h) p=_;rw[Mo b];exact K.CY p b e
 mem:=fun p x d b=>K.mem p x (LX d).1 b
theorem gL(K:Fa c o vs a st0 st)(q:c=st0.c)(m:GI vs zs)(e:HO st0){kv rv:AV}{ls:List AV}(l:ZZ c st.h kv g.Ae)(j:Fu c st.h ls g.AP)(b:(rv=.AO/\g.AP=[])∨∃p cap k ext rest,rv=.AU p 0 ls.length cap/\c<p/\AA st.h p=some (.cells k 3 (ls.flatMap AV.cells++rest) ext)) :
 ∃v,Kn c (.agg [kv,.str g.Ai,rv],st)=.ret (v,{ st with h:=Kc c st.h,c:=c })/\GD v g:=by
 obtain⟨v,n,f⟩:=uL l j b Ck (by decide);refine⟨v,?_,f⟩;have i:holds c (Kc c st.h)=true:=holds_of fun p x d=>⟨(LX d).2,K.AFU q m e p x (LX d).1 (LX d).2⟩;unfold Kn;simp only[n,i,Ba]
end
end Go.Am
namespace Go.Am
open Go
structure qh (g:Ac):Prop where
 small:g.Small
 Ae:g.Ae.length<=9
 many:g.AP.length<=11
 some:0<g.AP.length
 ACW:∀r∈g.AP,r.right.length<=29
 few:g.Ae.length+g.AP.length<=11
def VR(R:List Int->Int->Ac->Int->Prop)(k:Nat):Prop:=∀(st:St) (o:Nat) (vs:AV) (zs:List Int) (a:Int),RO st o vs a->GI vs zs->0<=a->a<10000->o<st.c->st.lo<=o->HB st->HO st ->
 ∃v g m st',Ab E k 15 [.AL o 0] st=.ret (v,st')/\st'.c=st.c/\Fa st.c o vs (a+m) st st'/\GD v g/\R zs a g m/\qh g/\0<=m/\m<=100
theorem Fa.begin{st:St}{o:Nat}{vs:AV}{a:Int}(b:RO st o vs a)(d:o<st.c)(e:HB st):Fa st.c o vs a st st:=
 ⟨e,rfl,b.lo,d,b.at_,fun _ _ _=>rfl,fun _ _ h _=>.inl h⟩
 mutual
theorem AV.Uc{c d:Nat} (h:c<=d):∀v:AV,v.CY c=true->v.CY d=true
 |.AL o _,e=>by simp[AV.CY,blt_eq]at e⊢;omega
 |.AU o _ _ _,e=>by simp[AV.CY,blt_eq]at e⊢;omega
 |.Cq o,e=>by simp[AV.CY,blt_eq]at e⊢;omega
 |.CB cs,e=>by simp only[AV.CY]at e⊢;exact AV.Ie h cs e
 |.agg cs,e=>by simp only[AV.CY]at e⊢;exact AV.Ie h cs e
 |.tuple cs,e=>by simp only[AV.CY]at e⊢;exact AV.Ie h cs e
 |.list _ _ cs,e=>by simp only[AV.CY]at e⊢;exact AV.Ie h cs e
 |.CR a b,e=>by simp only[AV.CY,Aq]at e⊢;exact⟨AV.Ie h a e.1,AV.Ie h b e.2⟩
 |.fn _ a b,e=>by simp only[AV.CY,Aq]at e⊢;exact⟨AV.Ie h a e.1,AV.Ie h b e.2⟩
 |.iface _ v,e=>by simp only[AV.CY]at e⊢;exact AV.Uc h v e
 |.bool _,_=>rfl
 |.int _ _,_=>rfl
 |.str _,_=>rfl
 |.DY,_=>rfl
 |.AO,_=>rfl
 |.IZ,_=>rfl
 |.Nc,_=>rfl
 |.Ij,_=>rfl
theorem AV.Ie{c d:Nat} (h:c<=d):∀l:List AV,AV.Dq c l=true->AV.Dq d l=true
 |[],_=>rfl
 |v::l,e=>by simp only[AV.Dq,Aq]at e⊢;exact⟨AV.Uc h v e.1,AV.Ie h l e.2⟩
end
theorem BJ.Uc{c d:Nat}(h:c<=d)(x:BJ)(e:BJ.CY c x=true):BJ.CY d x=true:=by
 cases x with
 |cells i f b ext=>exact AV.Ie h b e
 |map a vs g j=>simp only[BJ.CY,Aq]at e⊢;exact⟨AV.Ie h a e.1,AV.Ie h vs e.2⟩
 |iter m s l t=>cases m with
  |none=>rfl
  |some o=>simp only[BJ.CY,blt_eq,Aw]at e⊢;omega
section
variable {k:Nat}{o:Nat}{vs:AV}{zs:List Int}{a:Int}{st:St}
theorem vG{R:List Int->Int->Ac->Int->Prop}(hR:VR R (k+5))(Z:RO st o vs a)(hv:GI vs zs)(ha:0<=a/\a<10000)(ho:o<st.c)(hb:HB st)(hh:HO st)(a0:st.lo<=o) :
 ∃S v1 g m H i A f b L q,Ab E (k+5) 15 [.AL o 0] ⟨(st.c,.cells 29 3 [.AO,.str [],.AO] false)::st.h,st.c+2,st.lo⟩=.ret (S,f) /\
  Ab E (k+5) 14 [S] f=.ret (.agg [H,.str g.Ai,.AU i 0 A.length none],b) /\
  BA (st.c+1) (.cells 29 3 [.AO,.str [],.AO] false) b=some { b with h:=q } /\
  BM 3 (.AL (st.c+1) 0) (.agg [H,.str g.Ai,.AU i 0 A.length none]) { b with h:=q }=some (v1,L) /\
  GS st.c o vs (a+m) st L g H i A/\R zs a g m/\qh g/\0<=m/\m<=100:=by
 have O:HB ⟨(st.c,.cells 29 3 [.AO,.str [],.AO] false)::st.h,st.c+2,st.lo⟩:=fun p x I=>by
  show p<st.c+2;rcases BK.1 I with h|h
  ·cases h;omega
  ·have:=hb p x h;omega
 have v:∀n,AA ((st.c,BJ.cells 29 3 [.AO,.str [],.AO] false)::st.h) n=if st.c=n then some (.cells 29 3 [.AO,.str [],.AO] false) else AA st.h n:=fun n=>AZ _ _ _ _
 have J:RO ⟨(st.c,.cells 29 3 [.AO,.str [],.AO] false)::st.h,st.c+2,st.lo⟩ o vs a:=⟨by rw[v,AJ (by omega)];exact Z.at_,Z.lo⟩;have N:HO ⟨(st.c,.cells 29 3 [.AO,.str [],.AO] false)::st.h,st.c+2,st.lo⟩:=fun p x I=>by
  rcases BK.1 I with h|h
  ·cases h;rfl
  ·exact BJ.Uc (by show st.c<=st.c+2;omega) x (hh p x h)
 obtain⟨S,g,m,f,e1,a1,P,hg,T,F,U,V⟩:=hR _ o vs zs a J hv ha.1 ha.2 (by show o<st.c+2;omega) a0 O N;have K:f.c=st.c+2:=a1;have t:f.lo=st.lo:=P.lo;obtain⟨H,i,A,b,e2,s,r⟩:=oH (k:=k+3) hg F.small F.some P.hb (by rw[t];omega);rw[K]at s;have e:∀p,p<st.c+2->AA b.h p=AA f.h p:=fun p u=>r.CY p (by omega);have l:∀p,p<st.c+2->p≠o->AA f.h p=AA ((st.c,BJ.cells 29 3 [.AO,.str [],.AO] false)::st.h) p:=fun p u z=>P.CY p u z;have B:AA b.h (st.c+1)=none:=by rw[e _ (by omega),l _ (by omega) (by omega),v,AJ (by omega)];exact TZ hb (by omega)
 obtain⟨q,e3,f3,m3⟩:=Qr (y:=.cells 29 3 [.AO,.str [],.AO] false) B;have D:AA q (st.c+1)=some (.cells 29 3 [.AO,.str [],.AO] false):=by rw[f3,AX rfl]
 have e4:=KA (st:={ b with h:=q }) (n:=3) (vs:=[H,.str g.Ai,.AU i 0 A.length none]) D (by show b.lo<=st.c+1;rw[r.lo,t];omega) rfl rfl;refine⟨S,_,g,m,H,i,A,f,b,_,q,e1,e2,e3,e4,?_,T,F,U,V⟩;have Q:=s.Rc;have Y:st.c+2<=b.c:=by have:=r.c;omega
 have d:∀p,p≠st.c+1->AA (Ah q (st.c+1) (.cells 29 3 [H,.str g.Ai,.AU i 0 A.length none] false)) p=AA b.h p:=fun p u=>by rw[Ag D,AJ (Aj u),f3,AJ (Aj u)]
 have w:AA b.h o=some (.cells 25 2 [vs,.int .i64 (a+m)] false):=by rw[e o (by omega)];exact P.Kj
 refine⟨⟨fun p x I=>?_,r.lo.trans t,Z.lo,ho,?_,fun p u z=>?_,fun p x I u=>?_⟩,Y,?_,?_,⟨s.Ae.heap fun p u=>?_,s.kid,Q,?_,s.ln,fun j W F=>⟨(s.each j W F).1.heap fun p u=>?_,(s.each j W F).2⟩,s.inj,s.three⟩⟩
 ·show p<b.c;obtain⟨x',h'⟩:=NP I;rcases m3 p x' h' with h|h
  ·omega
  ·exact r.hb p x' h
 ·show AA (Ah q (st.c+1) _) o=_;rw[d o (by omega)];exact w
 ·show AA (Ah q (st.c+1) _) p=_;rw[d p (by omega),e p (by omega),l p (by omega) z,v,AJ (by omega)]
 ·rcases KS I with h|h
  ·omega
  rcases m3 p x h with h|h
  ·omega
  have h:=r.mem p x h (by omega);rcases P.mem p x h (by omega)with h|h
  ·rcases BK.1 h with h|h
   ·cases h;omega
   ·exact .inl h
  ·exact .inr h
 ·show AA (Ah q (st.c+1) _) (st.c+1)=_;rw[Ag D,AX rfl]
 ·show AA (Ah q (st.c+1) _) st.c=_;rw[d _ (by omega),e _ (by omega),l _ (by omega) (by omega),v,AX rfl]
 ·have:=s.kid p u;show AA (Ah q (st.c+1) _) p=_;exact d p (by omega)
 ·show AA (Ah q (st.c+1) _) i=_;rw[d _ (by omega)];exact s.AP
 ·have:=(s.each j W F).2 p u;show AA (Ah q (st.c+1) _) p=_;exact d p (by omega)
end
end Go.Am
namespace Go.Am
open Go
section
variable {c o:Nat}{vs:AV}{zs:List Int}{a:Int}{st0 st:St}{g:Ac}
theorem yw(F:GF c o vs a st0 st g)(B:c=st0.c)(z:GI vs zs)(q:HO st0) :
 ∃kv rv v b d,Ak st.h (.AL (c+1) 0) 3=some [kv,.str g.Ai,rv]/\BM 3 (.AL c 0) (.agg [kv,.str g.Ai,rv]) st=some (.undef,b) /\
  Ak b.h (.AL c 0) 3=some [kv,.str g.Ai,rv]/\Kn c (.agg [kv,.str g.Ai,rv],b)=.ret (v,d)/\d.c=c/\Fa c o vs a st0 d/\GD v g:=by
 obtain⟨kv,rv,ls,u,w,r,i⟩:=F.Tc;have j:st.lo<=c:=by rw[F.k.lo];have:=F.k.TW;have:=F.k.oc;omega
 have e:=KA (n:=3) (vs:=[kv,.str g.Ai,rv]) F.pq j rfl rfl;have m:=F.k.Ah (p:=c) (x:=.cells 29 3 [kv,.str g.Ai,rv] false) (Ao _) F.pq;have f:∀p,c<p->AA (Ah st.h c (.cells 29 3 [kv,.str g.Ai,rv] false)) p=AA st.h p:=fun p H=>by rw[Ag F.pq,AJ (by omega)]
 obtain⟨v,y,D⟩:=gL (g:=g) (kv:=kv) (rv:=rv) (ls:=ls) m B z q (w.frame f) (r.frame f) (by
  rcases i with h|⟨p,cap,t,ext,rest,A,l,s⟩
  ·exact .inl h
  ·exact .inr ⟨p,cap,t,ext,rest,A,l,(f p l).trans s⟩)
 exact⟨kv,rv,v,_,_,FI u rfl,e,FI (by show AA (Ah _ _ _) c=_;rw[Ag F.pq,AX rfl]) rfl,y,rfl,m.drop,D⟩
theorem Fa.to{b:Int}(K:Fa c o vs a st0 st)(e:a=b):Fa c o vs b st0 st:=by subst e;exact K
theorem GS.tick{q:AV}{f:Nat}{r:List AV}(H:GS c o vs a st0 st g q f r)(b:Int):GS c o vs b st0 (tick st o vs b) g q f r:=by
 have e:∀p,p≠o->AA (Am.tick st o vs b).h p=AA st.h p:=fun p d=>Gp H.k.Kj d;have s:=H.k.oc;have n:=H.m.Rc;exact⟨H.k.tick b,H.cc,by rw[e _ (by omega)];exact H.Tc,by rw[e _ (by omega)];exact H.pq,
  ⟨H.m.Ae.heap fun p d=>e p (by have:=(H.m.kid p d).1;omega),H.m.kid,H.m.Rc,by rw[e _ (by omega)];exact H.m.AP,H.m.ln,
   fun j i l=>⟨(H.m.each j i l).1.heap fun p d=>e p (by have:=((H.m.each j i l).2 p d).1;omega),(H.m.each j i l).2⟩,H.m.inj,H.m.three⟩⟩
theorem GS.AAM{i:AV}{h:Nat}{n:List AV}(H:GS c o vs a st0 st g i h n)(e:g.Small) :
 ∃d,BM 1 (.AL (c+1) 2) .AO st=some (.undef,d)/\GF c o vs a st0 d { g with AP:=[] }:=by
 have f:st.lo<=c+1:=by rw[H.k.lo];have:=H.k.TW;have:=H.k.oc;omega
 have j:=H.m.Rc;have b:=DZ (off:=2) (v:=.AO) H.Tc f (by simp) rfl rfl;refine⟨_,b,H.k.Ah (by omega) H.Tc,H.cc,by show AA (Ah _ _ _) c=_;rw[Ag H.Tc,AJ (by omega)];exact H.pq,⟨e.Ae,e.AB,e.Ai,by simp,by simp,by have:=e.few;simp;omega⟩,i,.AO,[],by show AA (Ah _ _ _) (c+1)=_;rw[Ag H.Tc,AX rfl];rfl,H.Um fun p l=>?_,.nil,.inl ⟨rfl,rfl⟩⟩;have:=H.Un l;show AA (Ah _ _ _) p=_;rw[Ag H.Tc,AJ (by omega)]
theorem GS.AAN{l:AV}{b:Nat}{i:List AV}(H:GS c o vs a st0 st g l b i)(f:g.Small) :
 ∃e,BM 1 (.AL (c+1) 0) .AO st=some (.undef,e)/\GF c o vs a st0 e { g with Ae:=[] }:=by
 have h:st.lo<=c+1:=by rw[H.k.lo];have:=H.k.TW;have:=H.k.oc;omega
 have j:=H.m.Rc;have d:=DZ (off:=0) (v:=.AO) H.Tc h (by simp) rfl rfl;refine⟨_,d,H.k.Ah (by omega) H.Tc,H.cc,by show AA (Ah _ _ _) c=_;rw[Ag H.Tc,AJ (by omega)];exact H.pq,⟨by simp,by simp,f.Ai,f.many,f.AP,by have:=f.few;simp;omega⟩,.AO,_,i,by show AA (Ah _ _ _) (c+1)=_;rw[Ag H.Tc,AX rfl];rfl,.inl ⟨rfl,rfl⟩,H.UY fun p q n=>?_,.inr ⟨b,none,63,true,[],rfl,by omega,?_⟩⟩
 ·show AA (Ah _ _ _) p=_;rw[Ag H.Tc,AJ (by omega)]
 ·show AA (Ah _ _ _) b=_;rw[Ag H.Tc,AJ (by omega),Fh];exact H.m.AP
end
def kR(zs:List Int)(b:Int)(g:Ac)(i:Nat):Nat->Ac->Int->Prop
 |0=>zN zs b g
 |1=>zM zs b g
 |2=>zL zs b g i
 |3=>zK zs b g i
 |4=>zJ zs b g i
 |5=>zI g i
 |6=>fun g' m=>g'={ g with AP:=[] }/\m=0
 |7=>zH zs b g i
 |8=>zG g i
 |9=>fun g' m=>g'={ g with Ae:=[] }/\m=0
 |_=>fun _ _=>False
theorem kR.one{zs:List Int}{b o m:Int}{g k l:Ac}{i d:Nat}(p:kR zs b g i d k o)(n:kR zs b g i d l m):k=l:=by
 match d,p,n with
 |0,⟨s,j,c,_⟩,⟨t,f,a,_⟩=>cases j.one f;rw[c,a]
 |1,⟨s,j,c,_⟩,⟨t,f,a,_⟩=>cases j.one f;rw[c,a]
 |2,⟨s,j,c,_⟩,⟨t,f,a,_⟩=>cases j.one f;rw[c,a]
 |3,⟨s,j,c,_⟩,⟨t,f,a,_⟩=>cases j.one f;rw[c,a]
 |4,⟨s,j,c,_⟩,⟨t,f,a,_⟩=>cases j.one f;rw[c,a]
 |5,⟨c,_⟩,⟨a,_⟩=>rw[c,a]
 |6,⟨c,_⟩,⟨a,_⟩=>rw[c,a]
 |7,⟨s,j,c,_⟩,⟨t,f,a,_⟩=>have e:=j.one f;simp only[AV.int.injEq,Int.natCast_inj,true_and]at e;subst e;rw[c,a]
 |8,⟨c,_⟩,⟨a,_⟩=>rw[c,a]
 |9,⟨c,_⟩,⟨a,_⟩=>rw[c,a]
 |d+10,h,_=>exact h.elim
def XW(R:List Int->Int->Ac->Int->Prop)(zs:List Int)(a:Int)(g':Ac):Prop:=
 ∃g m,R zs a g m/\((Br zs (a+m+1) 5≠0/\g'=g)∨(Br zs (a+m+1) 5=0/\∃(i d:Nat) (m':Int),Br zs (a+m+1+1) (g.AP.length:Int)=i/\Br zs (a+m+1+1+1) 10=d/\kR zs (a+m+1+1+1) g i d g' m'))
theorem XW.one{R:List Int->Int->Ac->Int->Prop}(r:∀{zs a b m1 c m2},R zs a b m1->R zs a c m2->b=c/\m1=m2){zs:List Int}{a:Int}{b c:Ac}(s:XW R zs a b)(h:XW R zs a c):b=c:=by
 obtain⟨g,m,j,x⟩:=s;obtain⟨A,w,p,y⟩:=h;obtain⟨rfl,rfl⟩:=r j p;rcases x with⟨f,rfl⟩|⟨f,i,d,_,v,u,k⟩<;>rcases y with⟨e,rfl⟩|⟨e,t,l,_,B,z,o⟩
 ·rfl
 ·exact absurd e f
 ·exact absurd f e
 ·have q:i=t:=by omega
  have n:d=l:=by omega
  subst q n;exact k.one o
section
variable {k:Nat}{o:Nat}{vs:AV}{zs:List Int}{a:Int}{st:St}
theorem ABU{R:List Int->Int->Ac->Int->Prop}(hR:VR R (k+5))(hs:RO st o vs a)(J:GI vs zs)(ha:0<=a/\a<10000)(ho:o<st.c)(hb:HB st)(hh:HO st)(a6:st.lo<=o) :
 ∃v g m e,Ab E (k+6) 4 [.AL o 0] st=.ret (v,e)/\e.c=st.c/\Fa st.c o vs (a+m) st e/\GD v g/\XW R zs a g/\g.Small/\0<=m/\m<=200:=by
 obtain⟨v0,v1,g,m,kv,a8,W,b5,b6,b1,h3,e1,e2,e3,e4,H,Y,s,b9,c1⟩:=vG hR hs J ha ho hb hh a6;rw[bI (fn:=C.f4) rfl rfl rfl,Ap (by simp)];have b3:∀p x,(p,x)∈st.h->p<st.c:=hb;have U:=Yy (k:=k+2) H.k.st J (by omega) (n:=5) (by unfold TR;omega);have H4:=H.tick (a+m+1);have L:=Od (k:=k+3) H4.k.st J (by omega) (n:=(W.length:Int)) (by unfold TR;have:=s.many;have:=H.m.ln;omega);have H5:=H4.tick (a+m+1+1);have O:=Od (k:=k+3) H5.k.st J (by omega) (n:=10) (by unfold TR;omega);have N:=H5.tick (a+m+1+1+1);have a4:=H.m.ln;have b0:=s.some;have a5:=s.many;have hi:=IG (zs:=zs) (a:=a+m+1+1) (n:=(W.length:Int)) (by omega);have hd:=IG (zs:=zs) (a:=a+m+1+1+1) (n:=10) (by omega);obtain⟨i,a2⟩:∃i:Nat,Br zs (a+m+1+1) (W.length:Int)=i:=⟨(Br zs (a+m+1+1) (W.length:Int)).toNat,by omega⟩;rw[a2]at L;have I:i<W.length:=by omega
 have a7:AQ (tick b1 o vs (a+m+1)).h (.AL (st.c+1) 2)=some (.AU a8 0 W.length none):=by rw[AR H4.Tc];rfl
 have goal:((Bc E (Ab E (k+5)) C.f4.body (TS.FK [.AL o 0] 0 .nil) st).bind (Al C.f4.results)).to fun r=>∃v g m e,Kn st.c r=.ret (v,e)/\e.c=st.c/\Fa st.c o vs (a+m) st e/\GD v g/\XW R zs a g/\g.Small/\0<=m/\m<=200:=by
  have b8:(k+5)=(k+2)+3:=rfl;have A:∀(q:Nat) (P:TS) (S:St) (b:Int) (u:Ac) (mm:Int),q≠2->q<65535->GF st.c o vs b st S u->b=a+mm->0<=mm->mm<=200->P.get 2=.AL st.c 0->P.get 3=.AL (st.c+1) 0->XW R zs a u ->
   (((M.FM (Ia S ((Ak S.h (.AL (st.c+1) 0) 3).map .agg))).bind fun x=>(M.FM (BM 3 (.AL st.c 0) x.1 x.2)).bind fun y=>Al [.cell 2 (some 3)] (.ret,P.set q x.1,y.2))).to fun r=>∃v g m e,Kn st.c r=.ret (v,e)/\e.c=st.c/\Fa st.c o vs (a+m) st e/\GD v g/\XW R zs a g/\g.Small/\0<=m/\m<=200:=by
   intro q P S b u mm a9 b4 F b2 a3 Z Q h3 hA;obtain⟨b7,c0,v',e,a1,r1,r2,r3,r4,r5,r6,r7⟩:=yw F rfl J hh;simp[r1,r2,Al,results,Af,a9,b4,Q,r3];exact⟨v',u,mm,a1,r4,r5,r6.to b2,r7,hA,F.small,a3,Z⟩
  have after:∀{T:Ac->Int->Prop} (P:TS) (e:St) (r:KN×TS×St),KL T st.c o vs (a+m+1+1+1) st P r->P.get 2=.AL st.c 0->P.get 3=.AL (st.c+1) 0->r.1=.normal/\r.2.1.get 2=.AL st.c 0/\r.2.1.get 3=.AL (st.c+1) 0/\∃u m',T u m'/\0<=m'/\m'<=5/\GF st.c o vs (a+m+1+1+1+m') st r.2.2 u:=fun P e r h Q h3=>⟨h.1,h.2.1.trans Q,h.2.2.1.trans h3,h.2.2.2⟩;simp[C.f4,Bb b3,e1,e2,e3,e4,U];by_cases hfl:Br zs (a+m+1) 5=0
  ·have V:(Br zs (a+m+1) 5==0)=true:=by simp[hfl]
   simp[V,a7,BZ,CV,L,O];obtain⟨d,w⟩:∃d:Nat,Br zs (a+m+1+1+1) 10=d:=⟨(Br zs (a+m+1+1+1) 10).toNat,by omega⟩;have l:∀{d:Nat} {u:Ac} {m':Int},Br zs (a+m+1+1+1) 10=(d:Int)->kR zs (a+m+1+1+1) g i d u m'->XW R zs a u:=fun {d u m'} h1 Q=>⟨g,m,Y,.inr ⟨hfl,i,d,m',by rw[←a2,a4],h1,Q⟩⟩;rw[w]at hd⊢;have a0:d=0∨d=1∨d=2∨d=3∨d=4∨d=5∨d=6∨d=7∨d=8∨d=9:=by omega
   rcases a0 with rfl|rfl|rfl|rfl|rfl|rfl|rfl|rfl|rfl|rfl
   ·simp;refine M.BG (AFD (k:=k+2) J (by omega) N s.small s.Ae s.few (by simp) (by simp)) fun r s=>?_;obtain⟨x,t,e⟩:=r;obtain⟨rfl,f,j,u,m',D,B,z,F⟩:=after _ st _ s (by simp) (by simp);simp only at f j F;simp[f,j];exact A 117 t e _ u (m+1+1+1+m') (by omega) (by omega) F (by omega) (by omega) (by omega) f j (l (d:=0) w D)
   ·simp[C.f4L16];refine M.BG (AFC (k:=k+2) J (by omega) N s.small (by simp) (by simp)) fun r s=>?_;obtain⟨x,t,e⟩:=r;obtain⟨rfl,f,j,u,m',D,B,z,F⟩:=after _ st _ s (by simp) (by simp);simp only at f j F;simp[f,j];exact A 117 t e _ u (m+1+1+1+m') (by omega) (by omega) F (by omega) (by omega) (by omega) f j (l (d:=1) w D)
   ·simp[C.f4L16,C.f4L14];refine M.BG (AFB (k:=k+2) J (by omega) N s.small (by simp) (by simp) I (by simp)) fun r s=>?_;obtain⟨x,t,e⟩:=r;obtain⟨rfl,f,j,u,m',D,B,z,F⟩:=after _ st _ s (by simp) (by simp);simp only at f j F;simp[f,j];exact A 117 t e _ u (m+1+1+1+m') (by omega) (by omega) F (by omega) (by omega) (by omega) f j (l (d:=2) w D)
   ·simp[C.f4L16,C.f4L14,C.f4L12];refine M.BG (AFA (k:=k+2) J (by omega) N s.small s.ACW (by simp) (by simp) I (by simp)) fun r s=>?_;obtain⟨x,t,e⟩:=r;obtain⟨rfl,f,j,u,m',D,B,z,F⟩:=after _ st _ s (by simp) (by simp);simp only at f j F;simp[f,j];exact A 117 t e _ u (m+1+1+1+m') (by omega) (by omega) F (by omega) (by omega) (by omega) f j (l (d:=3) w D)
   ·simp[C.f4L16,C.f4L14,C.f4L12,C.f4L10];refine M.BG (AD9 (k:=k+2) J (by omega) N s.small (by simp) (by simp) I (by simp)) fun r s=>?_;obtain⟨x,t,e⟩:=r;obtain⟨rfl,f,j,u,m',D,B,z,F⟩:=after _ st _ s (by simp) (by simp);simp only at f j F;simp[f,j];exact A 117 t e _ u (m+1+1+1+m') (by omega) (by omega) F (by omega) (by omega) (by omega) f j (l (d:=4) w D)
   ·simp[C.f4L16,C.f4L14,C.f4L12,C.f4L10,C.f4L8];refine M.BG (AD8 (k:=k+2) (by omega) N s.small s.many s.few (by simp) I (by simp)) fun r s=>?_;obtain⟨x,t,e⟩:=r;obtain⟨rfl,f,j,u,m',D,B,z,F⟩:=after _ st _ s (by simp) (by simp);simp only at f j F;simp[f,j];exact A 117 t e _ u (m+1+1+1+m') (by omega) (by omega) F (by omega) (by omega) (by omega) f j (l (d:=5) w D)
   ·obtain⟨e,K,F⟩:=N.AAM s.small;simp[C.f4L16,C.f4L14,C.f4L12,C.f4L10,C.f4L8,C.f4L6,K];exact A 117 _ e _ _ (m+1+1+1) (by omega) (by omega) F (by omega) (by omega) (by omega) (by simp) (by simp) (l (d:=6) (m':=0) w ⟨rfl,rfl⟩)
   ·simp[C.f4L16,C.f4L14,C.f4L12,C.f4L10,C.f4L8,C.f4L6,C.f4L4];refine M.BG (AD7 (k:=k+2) J (by omega) N s.small (by simp) (by simp) I (by simp)) fun r s=>?_;obtain⟨x,t,e⟩:=r;obtain⟨rfl,f,j,u,m',D,B,z,F⟩:=after _ st _ s (by simp) (by simp);simp only at f j F;simp[f,j];exact A 117 t e _ u (m+1+1+1+m') (by omega) (by omega) F (by omega) (by omega) (by omega) f j (l (d:=7) w D)
   ·simp[C.f4L16,C.f4L14,C.f4L12,C.f4L10,C.f4L8,C.f4L6,C.f4L4,C.f4L3];refine M.BG (AD6 (k:=k+2) (by omega) N s.small (by simp) I (by simp)) fun r s=>?_;obtain⟨x,t,e⟩:=r;obtain⟨rfl,f,j,u,m',D,B,z,F⟩:=after _ st _ s (by simp) (by simp);simp only at f j F;simp[f,j];exact A 117 t e _ u (m+1+1+1+m') (by omega) (by omega) F (by omega) (by omega) (by omega) f j (l (d:=8) w D)
   ·obtain⟨e,K,F⟩:=N.AAN s.small;simp[C.f4L16,C.f4L14,C.f4L12,C.f4L10,C.f4L8,C.f4L6,C.f4L4,C.f4L3,K];exact A 117 _ e _ _ (m+1+1+1) (by omega) (by omega) F (by omega) (by omega) (by omega) (by simp) (by simp) (l (d:=9) (m':=0) w ⟨rfl,rfl⟩)
  ·have V:(Br zs (a+m+1) 5==0)=false:=Hy hfl;simp[V,C.f4L0];exact A 11 _ _ _ _ (m+1) (by omega) (by omega) ((H.tick (a+m+1)).fin s.small) (by omega) (by omega) (by omega) (by simp) (by simp) ⟨g,m,Y,.inl ⟨hfl,rfl⟩⟩
 obtain⟨r,h1,v,u,m',e,Q,h3,h4⟩:=goal;exact⟨v,u,m',e,by rw[h1];exact Q,h3,h4⟩
end
end Go.Am
