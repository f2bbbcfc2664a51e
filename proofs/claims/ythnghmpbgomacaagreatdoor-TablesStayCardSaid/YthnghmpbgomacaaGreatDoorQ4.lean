/- A part of tablesStay. -/
import Derived.Test.YthnghmpbgomacaaGreatDoorQ3
set_option linter.unnecessarySimpa false
set_option maxHeartbeats 4000000
namespace Go.Am
 attribute [local irreducible] bigK
open Go
structure JM where
 P:List Place
 A:List Nat
 pid:Nat
 XU:Nat
 id:Nat
 row:List Int
def II(n:Nat):Option JM->List AV
 |none=>[.AO,.AO,.AO]
 |some y=>[.AU y.pid 0 y.P.length none,.AU y.XU 0 y.A.length none,.AU y.id 0 n (some n)]
theorem Sn(n:Nat)(y:Option JM):(II n y).length=3:=by cases y<;>rfl
structure bJ (n many mb:Nat)(h:Aa)(y:JM):Prop where
 pc:AA h y.pid=some (.cells 212 2 (y.P.flatMap Bh) true)
 ac:AA h y.XU=some (.cells 200 1 (y.A.flatMap Kl) true)
 rc:AA h y.id=some (.cells 3 1 (DC y.row) false)
 rl:y.row.length=n
 al:y.A.length=y.P.length
 ne:y.P≠[]
 a64:∀m∈y.A,m<2^64
 lQ:∀k∈y.row,-1<=k/\k<many
 bd:mb<y.pid/\mb<y.XU/\mb<y.id
structure MG (n many mb:Nat)(hm:Aa)(Y:List (Option JM))(st:St):Prop where
 mbc:mb+1<=st.c
 tp:CL st.h<=st.c
 lo:st.lo<=mb
 CY:∀p,p<mb->AA st.h p=AA hm p
 len:Y.length=many
 Pv:AA st.h mb=some (.cells 137 3 (Y.flatMap (II n)) false)
 ys:∀(v:Nat) (y:JM),Y[v]? =some (some y)->bJ n many mb st.h y
 inj:∀(v w:Nat) (y z:JM),Y[v]? =some (some y)->Y[w]? =some (some z)->v≠w->y.XU≠z.XU/\y.id≠z.id
section
variable {n many mb:Nat}{hm:Aa}{Y:List (Option JM)}
theorem bJ.heap{h h':Aa}{y:JM}(H:bJ n many mb h y)(e:∀p,p=y.pid∨p=y.XU∨p=y.id->AA h' p=AA h p):bJ n many mb h' y:=
 ⟨(e _ (.inl rfl)).trans H.pc,(e _ (.inr (.inl rfl))).trans H.ac,(e _ (.inr (.inr rfl))).trans H.rc,H.rl,H.al,H.ne,H.a64,H.lQ,H.bd⟩
theorem bJ.lt{h:Aa}{y:JM}(H:bJ n many mb h y):y.pid<CL h/\y.XU<CL h/\y.id<CL h:=⟨Fb H.pc,Fb H.ac,Fb H.rc⟩
theorem MG.grow{h d:Aa}{a b lo:Nat}(H:MG n many mb hm Y ⟨h,a,lo⟩)(k:a<=b)(g:CL d<=b)(e:∀p,p<a->AA d p=AA h p):MG n many mb hm Y ⟨d,b,lo⟩:=by have j:mb+1<=a:=H.mbc;have i:CL h<=a:=H.tp;refine⟨by show mb+1<=b;omega,g,H.lo,fun p c=>(e p (by omega)).trans (H.CY p c),H.len,(e mb (by omega)).trans H.Pv,fun v y f=>?_,H.inj⟩;have K:bJ n many mb h y:=H.ys v y f;have:=K.lt;exact K.heap fun p c=>e p (by rcases c with rfl|rfl|rfl<;>omega)
theorem jG{α:Type}{enc:α->List AV}{sz i:Nat}(a:∀x,(enc x).length=sz){L:List α}(b:i<L.length)(y:α):Bl (L.flatMap enc) (i*sz) (enc y)=(L.set i y).flatMap enc:=by
 obtain⟨c,e⟩:=Uv a b;have d:(L.set i y).flatMap enc=(L.take i).flatMap enc++(enc y++(L.drop (i+1)).flatMap enc):=by rw[NY,AX b,KH,Cn]
 have key:=OY (A:=(L.take i).flatMap enc) (B:=enc L[i]) (C:=(L.drop (i+1)).flatMap enc) (vs:=enc y) (by rw[a,a]);rw[e]at key;rw[c,d];exact key
theorem MG.at_{h:Aa}{c lo v:Nat}(H:MG n many mb hm Y ⟨h,c,lo⟩)(e:v<Y.length):Cells h (.AL mb (v*3)) (II n Y[v]):=by
 have d:AA h mb=some (.cells 137 3 (Y.flatMap (II n)) false):=H.Pv;obtain⟨a,b⟩:=Uv (Sn n) e;refine Cells.obj d ?_ ?_
 ·rw[a,Bd,Bd,b];omega
 ·rw[a,←b,List.drop_left,Je]
theorem MG.idx{h:Aa}{c lo v:Nat}(H:MG n many mb hm Y ⟨h,c,lo⟩)(e:v<Y.length)(a:Nat):AY 3 (.AU mb 0 many (some many)) (.int .i64 (v:Int)) ⟨h,a,lo⟩=some (.AL mb (v*3),⟨h,a,lo⟩):=by
 have b:AA h mb=some (.cells 137 3 (Y.flatMap (II n)) false):=H.Pv;have d:v<many:=by have:=H.len;omega
 simp[AY,Bg,b,blt_eq,d]
theorem MG.take{h:Aa}{c lo v:Nat}(H:MG n many mb hm Y ⟨h,c,lo⟩)(m:v<Y.length)(q:Y[v]=none){y:JM}(K:bJ n many mb h y)(fresh:∀(w:Nat) (z:JM),Y[w]? =some (some z)->y.XU≠z.XU/\y.id≠z.id) :
 BM 3 (.AL mb (v*3)) (.agg (II n (some y))) ⟨h,c,lo⟩=some (.undef,⟨Ah h mb (.cells 137 3 ((Y.set v (some y)).flatMap (II n)) false),c,lo⟩)/\MG n many mb hm (Y.set v (some y)) ⟨Ah h mb (.cells 137 3 ((Y.set v (some y)).flatMap (II n)) false),c,lo⟩:=by
 have i:AA h mb=some (.cells 137 3 (Y.flatMap (II n)) false):=H.Pv;have f:lo<=mb:=H.lo;constructor
 ·rw[CE,i,CW];have e:=jG (Sn n) m (some y);have l:(Y.flatMap (II n)).length=Y.length*3:=Ib (Sn n) Y;have o:(AV.agg (II n (some y))).cells=II n (some y):=rfl;rw[AX ⟨rfl,rfl⟩,o,AX ⟨f,by rw[l,Sn];omega⟩,e]
 ·refine⟨H.mbc,by show CL (Ah _ _ _)<=_;rw[Cg];exact H.tp,f,fun p d=>(Bn (by omega)).trans (H.CY p d),by rw[IU];exact H.len,by show AA (Ah _ _ _) _=_;rw[Fy rfl,i];rfl,fun w z b=>?_,fun w u z j b a g=>?_⟩
  ·rw[FW]at b;split at b
   ·rename_i e;cases b;have:=K.bd;exact K.heap fun p d=>Bn (by rcases d with rfl|rfl|rfl<;>omega)
   ·have k:bJ n many mb h z:=H.ys w z b;have:=k.bd;exact k.heap fun p d=>Bn (by rcases d with rfl|rfl|rfl<;>omega)
  ·rw[FW]at b a;split at b<;>split at a
   ·omega
   ·cases b;exact fresh u j a
   ·cases a;have:=fresh w z b;exact⟨this.1.symm,this.2.symm⟩
   ·exact H.inj w u z j b a g
theorem MG.AHD{h:Aa}{c j v k m:Nat}(H:MG n many mb hm Y ⟨h,c,j⟩){y:JM}(g:Y[v]? =some (some y))(I:k<y.A.length)(i:m<2^64) :
 BM 1 (.AL y.XU k) (.int .u64 (m:Int)) ⟨h,c,j⟩=some (.undef,⟨Ah h y.XU (.cells 200 1 ((y.A.set k m).flatMap Kl) true),c,j⟩)/\MG n many mb hm (Y.set v (some { y with A:=y.A.set k m })) ⟨Ah h y.XU (.cells 200 1 ((y.A.set k m).flatMap Kl) true),c,j⟩:=by
 have K:bJ n many mb h y:=H.ys v y g;have q:j<=mb:=H.lo;have L:=K.bd;obtain⟨J,o⟩:=GJ.1 g;have a:(Y.set v (some { y with A:=y.A.set k m })).flatMap (II n)=Y.flatMap (II n):=Uw J (by rw[o];simp[II]);constructor
 ·rw[CE,K.ac,CW];have e:=jG (enc:=Kl) (sz:=1) (fun _=>rfl) I m;have D:(y.A.flatMap Kl).length=y.A.length*1:=Ib (sz:=1) (enc:=Kl) (fun _=>rfl) y.A;have N:(AV.int .u64 (m:Int)).cells=Kl m:=rfl;rw[AX ⟨rfl,rfl⟩,N,AX ⟨by omega,by rw[D];show k+1<=_;omega⟩];rw[Fe]at e;rw[e]
 ·refine⟨H.mbc,by show CL (Ah _ _ _)<=_;rw[Cg];exact H.tp,q,fun p l=>(Bn (by omega)).trans (H.CY p l),by rw[IU];exact H.len,by rw[a];exact (Bn (by omega)).trans H.Pv,fun w z d=>?_,fun w u z s d b f=>?_⟩
  ·rw[FW]at d;split at d
   ·rename_i e;cases d;have t:y.XU≠y.pid:=fun e=>by have:=K.pc;rw[←e,K.ac]at this;cases this
    have B:y.XU≠y.id:=fun e=>by have:=K.rc;rw[←e,K.ac]at this;cases this
    refine⟨(Bn t).trans K.pc,by show AA (Ah _ _ _) _=_;rw[Fy rfl,K.ac];rfl,(Bn B).trans K.rc,K.rl,by show (y.A.set k m).length=_;rw[IU];exact K.al,K.ne,fun x F=>?_,K.lQ,K.bd⟩;rcases Kr F with h|rfl
    ·exact K.a64 x h
    ·exact i
   ·rename_i f;have r:bJ n many mb h z:=H.ys w z d;have O:=(H.inj v w y z g d f).1;have t:y.XU≠z.pid:=fun e=>by have:=r.pc;rw[←e,K.ac]at this;cases this
    have B:y.XU≠z.id:=fun e=>by have:=r.rc;rw[←e,K.ac]at this;cases this
    exact r.heap fun p l=>Bn (by rcases l with rfl|rfl|rfl<;>assumption)
  ·rw[FW]at d b;split at d<;>split at b
   ·omega
   ·cases d;rename_i e _;exact H.inj v u y s g b (by omega)
   ·cases b;rename_i e;exact H.inj w v z y d g (by omega)
   ·exact H.inj w u z s d b f
theorem MG.AHB{h:Aa}{c i v k x:Nat}(H:MG n many mb hm Y ⟨h,c,i⟩){y:JM}(g:Y[v]? =some (some y))(A:k<n)(I:x<many) :
 BM 1 (.AL y.id k) (.int .i64 (x:Int)) ⟨h,c,i⟩=some (.undef,⟨Ah h y.id (.cells 3 1 (DC (y.row.set k (x:Int))) false),c,i⟩)/\MG n many mb hm (Y.set v (some { y with row:=y.row.set k (x:Int) })) ⟨Ah h y.id (.cells 3 1 (DC (y.row.set k (x:Int))) false),c,i⟩:=by
 have K:bJ n many mb h y:=H.ys v y g;have o:i<=mb:=H.lo;have F:=K.bd;obtain⟨D,m⟩:=GJ.1 g;have a:(Y.set v (some { y with row:=y.row.set k (x:Int) })).flatMap (II n)=Y.flatMap (II n):=Uw D (by rw[m];simp[II]);refine⟨bW K.rc (by omega) (by rw[K.rl];exact A) _,H.mbc,by show CL (Ah _ _ _)<=_;rw[Cg];exact H.tp,o,fun p l=>(Bn (by omega)).trans (H.CY p l),by rw[IU];exact H.len,by rw[a];exact (Bn (by omega)).trans H.Pv,fun w z d=>?_,fun w u z r d b f=>?_⟩
 ·rw[FW]at d;split at d
  ·rename_i e;cases d;have s:y.id≠y.pid:=fun e=>by have:=K.pc;rw[←e,K.rc]at this;cases this
   have t:y.id≠y.XU:=fun e=>by have:=K.ac;rw[←e,K.rc]at this;cases this
   refine⟨(Bn s).trans K.pc,(Bn t).trans K.ac,by show AA (Ah _ _ _) _=_;rw[Fy rfl,K.rc];rfl,by show (y.row.set k (x:Int)).length=_;rw[IU];exact K.rl,K.al,K.ne,K.a64,fun j B=>?_,K.bd⟩;rcases Kr B with h|rfl
   ·exact K.lQ j h
   ·constructor<;>omega
  ·rename_i f;have q:bJ n many mb h z:=H.ys w z d;have J:=(H.inj v w y z g d f).2;have s:y.id≠z.pid:=fun e=>by have:=q.pc;rw[←e,K.rc]at this;cases this
   have t:y.id≠z.XU:=fun e=>by have:=q.ac;rw[←e,K.rc]at this;cases this
   exact q.heap fun p l=>Bn (by rcases l with rfl|rfl|rfl<;>assumption)
 ·rw[FW]at d b;split at d<;>split at b
  ·omega
  ·cases d;rename_i e _;exact H.inj v u y r g b (by omega)
  ·cases b;rename_i e;exact H.inj w v z y d g (by omega)
  ·exact H.inj w u z r d b f
end
theorem fw(n:Nat):∀k,FZ [AV.AO,.AO,.AO] k=(List.replicate k (none:Option JM)).flatMap (II n)
 |0=>rfl
 |k+1=>by rw[FZ,fw n k,List.replicate_succ,Cn];rfl
theorem MG.cell{n many a c i v:Nat}{e h:Aa}{Y:List (Option JM)}(H:MG n many a e Y ⟨h,c,i⟩){y:JM}(f:Y[v]? =some (some y)) :
 AQ h (.AL a (v*3))=some (.AU y.pid 0 y.P.length none)/\AQ h (.AL a (v*3+1))=some (.AU y.XU 0 y.A.length none)/\AQ h (.AL a (v*3+2))=some (.AU y.id 0 n (some n)):=by
 obtain⟨g,d⟩:=GJ.1 f;have b:=H.at_ g;rw[d]at b;exact⟨b.zero (by simp[II]),b.one 1 (by simp[II]),b.one 2 (by simp[II])⟩
theorem MG.same{n many c v:Nat}{b:Aa}{Y:List (Option JM)}{d:St}{y:JM}(e:Y[v]? =some (some y))(H:MG n many c b Y d):MG n many c b (Y.set v (some y)) d:=by
 obtain⟨f,a⟩:=GJ.1 e;have:Y.set v (some y)=Y:=by rw[←a,List.set_getElem_self]
 rw[this];exact H
theorem bT{Y:List (Option JM)}{v:Nat}{y z:JM}(b:Y[v]? =some (some y)):(Y.set v (some z))[v]? =some (some z):=by obtain⟨a,_⟩:=GJ.1 b;rw[FW];simp[a]
theorem xI{F n many r D v c p:Nat}{O h:Aa}{Y:List (Option JM)}{y:JM}{S:Ig}{l:List AV}(T:MG n many r O Y ⟨h,c,p⟩)(V:Y[v]? =some (some y))(hl:y.A.length=S.length)(hS:∀x∈S,x.2<2^64)(a0:S.length<=1000)(t:AA h D=some (.cells 137 3 l false))(d:TS)(P:TS->Prop)(Z:P d)(u:∀(d:TS) (i:Nat) (x:AV),7<i/\i<65535->54<=i∨i=8∨i=9->P d->P (d.set i x))(w:d.get 7=.AL r (v*3))(o:d.get 52=Hd S)(g:d.get 53=.int .i64 (S.length:Int))(f:d.get 54=.int .i64 0) :
 (Dm (Bc E (Ab E F) C.f100L1) E.k d ⟨h,c,p⟩).to fun x=>x.1=.exit 2/\P x.2.1/\x.2.1.get 7=.AL r (v*3)/\∃a b,x.2.2=⟨b,c,p⟩/\a.length=y.A.length/\MG n many r O (Y.set v (some { y with A:=a })) ⟨b,c,p⟩/\AA b D=some (.cells 137 3 l false):=by
 refine Cy (fun (k:Nat) d W=>k<=S.length/\P d/\Has d [(7,.AL r (v*3)),(52,Hd S),(53,.int .i64 (S.length:Int)),(54,.int .i64 (k:Int))]/\∃a b,W=⟨b,c,p⟩/\a.length=y.A.length/\MG n many r O (Y.set v (some { y with A:=a })) ⟨b,c,p⟩/\AA b D=some (.cells 137 3 l false))
  (fun k=>S.length-k) ?_ _ 0 _ _ ?_ ?_
 ·clear w o g f T Z t;rintro k d W ⟨hk,z,B,a,b,rfl,U,H,t⟩;simp only[Be,CG,BX]at B;obtain⟨w,o,g,f⟩:=B;by_cases Bi:k<S.length
  ·obtain⟨q,ix,rd⟩:=ABw (h:=b) Bi;have s:(Y.set v (some { y with A:=a }))[v]? =some (some { y with A:=a }):=bT V;obtain⟨_,r1,_⟩:=H.cell s;have K:=H.ys v _ s;have K:bJ n many r b { y with A:=a }:=K;have j:k<a.length:=by omega
   have I:AA b y.XU=some (.cells 200 1 (a.flatMap Kl) true):=K.ac;have ia:AY 1 (.AU y.XU 0 a.length none) (.int .i64 (k:Int)) ⟨b,c,p⟩=some (.AL y.XU k,⟨b,c,p⟩):=by simp[AY,Bg,I,blt_eq,j]
   have ra:AQ b (.AL y.XU k)=some (.int .u64 (a[k]:Int)):=by
    rw[BB,I,Ik];have:a.flatMap Kl=a.map fun m:Nat=>AV.int .u64 (m:Int):=by show a.flatMap (fun m:Nat=>[AV.int .u64 (m:Int)])=_;rw[MM]
    rw[this];simp[j]
   have R:a[k]<2^64:=K.a64 _ (BH j);have Q:=hS _ (BH Bi);have L:=Qs R Q;obtain⟨N,G2⟩:=H.AHD s j (Nat.or_lt_two_pow R Q);have J:AA (Ah b y.XU (.cells 200 1 ((a.set k (a[k] ||| S[k].2)).flatMap Kl) true)) D=some (.cells 137 3 l false):=by rw[Bn (fun e=>by rw[←e,I]at t;cases t)];exact t
   simp[C.f100L1,w,o,g,f,Bi,ix,rd,r1,ia,ra,L,N,wi k];refine⟨k+1,by omega,by omega,?_,by simp,a.set k (a[k] ||| S[k].2),by simp[U],by simpa using G2,J⟩;repeat' first|with_reducible exact z|refine u _ _ _ (by omega) (by omega) ?_
  ·have:k=S.length:=by omega
   subst this;simp[C.f100L1,w,g,f];exact⟨u _ _ _ (by omega) (by omega) z,a,U,H,t⟩
 ·exact FX (by show S.length-0<1000000;omega)
 ·exact⟨by omega,Z,by simp[w,o,g,f],y.A,h,rfl,rfl,MG.same V T,t⟩
theorem xH{F n many p v c lo:Nat}{B h:Aa}{Y:List (Option JM)}{y:JM}{x:Row}{O:List Nat}(R:MG n many p B Y ⟨h,c,lo⟩)(S:Y[v]? =some (some y))(hx:AA B x.id=some (.cells 3 1 (DC x.row) false))(N:x.id<p)(D:x.row.length=n)(Q:∀k∈x.row,k<O.length)(hO:∀j (W:j<O.length),O[j]<many)(hn:n<=1000)(b:TS)(P:TS->Prop)(Z:P b)(o:∀(b:TS) (i:Nat) (x:AV),7<i/\i<65535->73<=i∨i=10∨i=11->P b->P (b.set i x))(z2:∀b,P b->b.get 2=.list false 1 (BI O))(t:b.get 7=.AL p (v*3))(g:b.get 71=.AU x.id 0 n (some n))(d:b.get 72=.int .i64 (n:Int))(e:b.get 73=.int .i64 0) :
 (Dm (Bc E (Ab E F) C.f100L2) E.k b ⟨h,c,lo⟩).to fun x=>x.1=.exit 4/\P x.2.1/\∃a f,x.2.2=⟨f,c,lo⟩/\MG n many p B (Y.set v (some { y with row:=a })) ⟨f,c,lo⟩:=by
 refine Cy (fun (k:Nat) b V=>k<=n/\P b/\Has b [(7,.AL p (v*3)),(71,.AU x.id 0 n (some n)),(72,.int .i64 (n:Int)),(73,.int .i64 (k:Int))]/\∃a f,V=⟨f,c,lo⟩/\MG n many p B (Y.set v (some { y with row:=a })) ⟨f,c,lo⟩)
  (fun k=>n-k) ?_ _ 0 _ _ ?_ ?_
 ·clear t g d e R Z;rintro k b V ⟨hk,m,A,a,f,rfl,s⟩;simp only[Be,CG,BX]at A;obtain⟨t,g,d,e⟩:=A;have u:=z2 b m;by_cases Bi:k<n
  ·have U:AA f x.id=some (.cells 3 1 (DC x.row) false):=(s.CY _ N).trans hx;have T:=UZ (c:=c) (lo:=lo) U D Bi;have H:=AAD U (i:=k) (by omega);have J:=Q _ (BH (show k<x.row.length by omega));by_cases hneg:0<=x.row[k]'(by omega)
   ·obtain⟨j,W⟩:∃j:Nat,x.row[k]'(by omega)=(j:Int):=⟨(x.row[k]'(by omega)).toNat,by omega⟩;rw[W]at H J;have z:j<O.length:=by omega
    have r:(Y.set v (some { y with row:=a }))[v]? =some (some { y with row:=a }):=bT S;obtain⟨_,_,r2⟩:=s.cell r;have K:bJ n many p f { y with row:=a }:=s.ys v _ r;obtain⟨q,a1,b1⟩:=(RL.sl (h:=f) (w:=.list false 1 (BI O)) (l:=O) ⟨.inr ⟨false,rfl⟩⟩).rs.rd z;have I:=a1 ⟨f,c,lo⟩ rfl;have rc:AA f y.id=some (.cells 3 1 (DC a) false):=K.rc;have ri:=UZ (c:=c) (lo:=lo) rc K.rl Bi;obtain⟨L,G2⟩:=s.AHB r Bi (hO j z);simp[C.f100L2,u,t,g,d,e,Bi,T,H,r2,I,b1,ri,L,wi k];refine⟨k+1,by omega,by omega,?_,by simp,a.set k (O[j]:Int),by simpa using G2⟩;repeat' first|with_reducible exact m|refine o _ _ _ (by omega) (by omega) ?_
   ·have hd:decide (0<=x.row[k]'(by omega))=false:=FP hneg;simp[C.f100L2,u,t,g,d,e,Bi,T,H,hneg,wi k];refine⟨k+1,by omega,by omega,?_,by simp,a,s⟩;repeat' first|with_reducible exact m|refine o _ _ _ (by omega) (by omega) ?_
  ·have:k=n:=by omega
   subst this;simp[C.f100L2,d,e];exact⟨o _ _ _ (by omega) (by omega) m,a,s⟩
 ·exact FX (by show n-0<1000000;omega)
 ·exact⟨by omega,Z,by simp[t,g,d,e],y.row,h,rfl,MG.same S R⟩
theorem yX{k c lo:Nat}{S:Ig}(m:S≠[])(z:S.length<=1000){h:Aa}(t:CL h<=c):∃p g b,Ab E (k+1) 157 [Hr S] ⟨h,c,lo⟩=.ret (.AU p 0 S.length none,⟨g,b,lo⟩)/\AA g p=some (.cells 212 2 ((S.map (·.1)).flatMap Bh) true)/\c<=p/\p<b/\c<=b/\CL g<=b/\∀q,q<c->AA g q=AA h q:=by
 obtain⟨w,⟨g,b,l⟩,e,M,o,G⟩:=Sw (k:=k) (f:=157) (fn:=C.f157) (ty:=212) (sz:=2) (bytes:=16) (v:=Hr S) (xs:=S.map fun x=>FR x.1) (st:=⟨h,c,lo⟩) rfl rfl rfl rfl rfl (by omega) (by omega) (by simpa using z) ⟨.inr ⟨false,rfl⟩⟩ (fun x A=>by obtain⟨y,_,rfl⟩:=BP.1 A;rfl) (lS t);have r:l=lo:=G.lo;subst r;have j:(S.map fun x=>FR x.1).flatMap AV.cells=(S.map (·.1)).flatMap Bh:=by rw[Ll,Ll];rfl
 cases hM:S with
 |nil=>exact absurd hM m
 |cons a F=>
  rw[←hM];generalize d:(S.map fun x=>FR x.1)=xs at M j;cases M with
  |nl=>simp[hM]at d
  |mt id ext n=>simp[hM]at d
  |ob id _ B D n=>
   have i:xs.length=S.length:=by rw[←d];simp
   rw[i]at e;rw[j]at n;have s:=o id rfl;exact⟨id,g,b,e,n,s.1,s.2,G.c,HB.CL (h:=g) (c:=b) (lo:=l) G.hb,fun q u=>G.CY q u⟩
theorem yY{k c lo:Nat}{S:Ig}(m:S≠[])(z:S.length<=1000){h:Aa}(t:CL h<=c):∃p g b,Ab E (k+1) 158 [Hd S] ⟨h,c,lo⟩=.ret (.AU p 0 S.length none,⟨g,b,lo⟩)/\AA g p=some (.cells 200 1 ((S.map (·.2)).flatMap Kl) true)/\c<=p/\p<b/\c<=b/\CL g<=b/\∀q,q<c->AA g q=AA h q:=by
 obtain⟨w,⟨g,b,l⟩,e,M,o,G⟩:=Sw (k:=k) (f:=158) (fn:=C.f158) (ty:=200) (sz:=1) (bytes:=8) (v:=Hd S) (xs:=S.map fun x=>JQ x.2) (st:=⟨h,c,lo⟩) rfl rfl rfl rfl rfl (by omega) (by omega) (by simpa using z) ⟨.inr ⟨false,rfl⟩⟩ (fun x A=>by obtain⟨y,_,rfl⟩:=BP.1 A;rfl) (lS t);have r:l=lo:=G.lo;subst r;have j:(S.map fun x=>JQ x.2).flatMap AV.cells=(S.map (·.2)).flatMap Kl:=by rw[Ll,Ll];rfl
 cases hM:S with
 |nil=>exact absurd hM m
 |cons a F=>
  rw[←hM];generalize d:(S.map fun x=>JQ x.2)=xs at M j;cases M with
  |nl=>simp[hM]at d
  |mt id ext n=>simp[hM]at d
  |ob id _ B D n=>
   have i:xs.length=S.length:=by rw[←d];simp
   rw[i]at e;rw[j]at n;have s:=o id rfl;exact⟨id,g,b,e,n,s.1,s.2,G.c,HB.CL (h:=g) (c:=b) (lo:=l) G.hb,fun q u=>G.CY q u⟩
structure Wj (X:List Row)(O:List Nat)(i:Nat)(Y:List (Option JM)):Prop where
 cov:∀j,j<i->∃y,Y[O.getD j 0]? =some (some y)
 src:∀(v:Nat) (y:JM),Y[v]? =some (some y)->∃j,∃h:j<X.length,O.getD j 0=v/\y.P=X[j].S.map (·.1)
theorem Wj.put{X:List Row}{O:List Nat}{i v:Nat}{Y:List (Option JM)}(H:Wj X O i Y){y z:JM}(b:Y[v]? =some (some y))(l:z.P=y.P):Wj X O i (Y.set v (some z)):=by
 obtain⟨h,_⟩:=GJ.1 b;refine⟨fun j g=>?_,fun w u a=>?_⟩
 ·obtain⟨x,f⟩:=H.cov j g;by_cases e:v=O.getD j 0
  ·exact⟨z,by rw[←e,FW];simp[h]⟩
  ·exact⟨x,by rw[FW,AJ e];exact f⟩
 ·rw[FW]at a;split at a
  ·rename_i e;subst e;simp only[Ct]at a;subst a;obtain⟨j,k,c,d⟩:=H.src v y b;exact⟨j,k,c,l.trans d⟩
  ·exact H.src w u a
theorem Wj.new{X:List Row}{O:List Nat}{i v:Nat}{Y:List (Option JM)}(H:Wj X O i Y)(d:i<X.length)(g:v<Y.length)(c:O.getD i 0=v){z:JM}(k:z.P=X[i].S.map (·.1)):Wj X O (i+1) (Y.set v (some z)):=by
 refine⟨fun j l=>?_,fun w u a=>?_⟩
 ·by_cases e:v=O.getD j 0
  ·exact⟨z,by rw[←e,FW];simp[g]⟩
  ·have b:j<i:=by
    rcases FU j i with h|h
    ·exact h
    ·have:j=i:=by omega
     subst this;exact absurd c.symm e
   obtain⟨x,f⟩:=H.cov j b;exact⟨x,by rw[FW,AJ e];exact f⟩
 ·rw[FW]at a;split at a
  ·rename_i e;subst e;simp only[Ct]at a;subst a;exact⟨i,d,c,k⟩
  ·exact H.src w u a
theorem Wj.more{X:List Row}{O:List Nat}{i:Nat}{Y:List (Option JM)}(H:Wj X O i Y){y:JM}(a:Y[O.getD i 0]? =some (some y)):Wj X O (i+1) Y:=
 ⟨fun j b=>by
  rcases FU j i with h|h
  ·exact H.cov j h
  ·have:j=i:=by omega
   subst this;exact⟨y,a⟩,H.src⟩
theorem xJ{k a b0 f0 d lo:Nat}{Z h0:Aa}{D:AH}{g:Ac}{F Or O:List Nat}{N:List Bool}(E0:kg g F N a b0 h0 D Or){ss:AV}{X:List Row}{h8 f:List (Bz×Nat)}(S0:Vb g a b0 f0 h0 D ss X h8 ⟨Z,d,lo⟩)(hX:X.length<=2000)(Gr:bK (fun j=>keyOf false (X.getD j ⟨[],0,[]⟩).S) X.length f O){st:St}(G0:MG g.AB.length f.length d Z (List.replicate f.length none) st)(c2:st.lo=lo)(ts:TS)(z0:ts.get 0=.AL a 0)(z2:ts.get 2=.list false 1 (BI O))(z4:ts.get 4=.AU d 0 f.length (some f.length))(T:ts.get 22=ss)(P:ts.get 23=.int .i64 (X.length:Int))(J:ts.get 24=.int .i64 0) :
 (Dm (Bc E (Ab E (k+2)) C.f100L0) E.k ts st).to fun x=>x.1=.exit 0/\x.2.1.get 0=.AL a 0/\x.2.1.get 4=.AU d 0 f.length (some f.length)/\x.2.2.lo=lo/\∃Y,MG g.AB.length f.length d Z Y x.2.2/\Wj X O X.length Y:=by
 have hs:=E0.TK.Nf.small;have V:=PE hs;have l2:=S0.ab;have l3:b0<=d:=S0.bc;have j1:lo<=a:=S0.lo;have f7:CL Z<=d:=S0.tp;have HX:qi d Z 3 (KP g.AB.length) ss X:=qi.gs S0.Xz (fun _=>rfl) fun p hp=>Bt (S0.Xz.lt hp) f7;have HA:Sc d Z (.AL a 0) g F N D.ov ss:=E0.at_ S0;have j9:O.length=X.length:=Gr.len;have d6:∀j (hj:j<O.length),O[j]<f.length:=fun j hj=>(Gr.lt hj).1;refine Cy (fun (i:Nat) ts st=>i<=X.length/\Has ts [(0,.AL a 0),(2,.list false 1 (BI O)),(4,.AU d 0 f.length (some f.length)),(22,ss),(23,.int .i64 (X.length:Int)),(24,.int .i64 (i:Int))]/\st.lo=lo/\∃Y,MG g.AB.length f.length d Z Y st/\Wj X O i Y)
  (fun i=>X.length-i) ?_ _ 0 _ _ ?_ ?_
 ·clear z0 z2 z4 T P J G0 c2;rintro i ts ⟨h,c,o⟩ ⟨hi,d8,b3,Y,G1,Cv⟩;simp only[Be,CG,BX]at d8;obtain⟨z0,z2,z4,T,P,J⟩:=d8;simp only at b3;subst b3;have j2:d+1<=c:=G1.mbc;have tp:CL h<=c:=G1.tp;by_cases Bi:i<X.length
  ·obtain⟨q,a1,b1⟩:=(HX h G1.CY).at_ i Bi;have b5:=b1.all;rw[show (KP g.AB.length X[i]).length=3 from rfl]at b5;have d9:∀cc,AY 3 ss (.int .i64 (i:Int)) ⟨h,cc,o⟩=some (q,⟨h,cc,o⟩):=fun cc=>a1 _ rfl;obtain⟨h1,W,n1,s1,f2,t2,g9⟩:=Ih (c':=c+1) (ty:=137) (sz:=3) (n:=3) (v:=.agg (KP g.AB.length X[i])) (cs:=KP g.AB.length X[i]) (zero:=[.AO,.AO,.AO]) tp (lo:=o) (by omega) rfl rfl rfl rfl;have G2:MG g.AB.length f.length d Z Y ⟨W,c+1,o⟩:=G1.grow (by omega) t2 fun p hp=>g9 p (by omega);have a6:i<O.length:=by omega
   obtain⟨q2,a2,b2⟩:=(RL.sl (h:=W) (w:=.list false 1 (BI O)) (l:=O) ⟨.inr ⟨false,rfl⟩⟩).rs.rd a6;have c1:∀cc,AY 1 (.list false 1 (BI O)) (.int .i64 (i:Int)) ⟨W,cc,o⟩=some (q2,⟨W,cc,o⟩):=fun cc=>a2 _ rfl;obtain⟨v,a4⟩:∃v,v=O[i]:=⟨_,rfl⟩;have i0:v<f.length:=a4▸d6 i a6;have b9:O.getD i 0=v:=by rw[a4];simp[List.getD,a6]
   rw[←a4]at b2;have I:v<Y.length:=by rw[G2.len];exact i0
   have c9:=G2.idx I;have i6:AQ W (.AL c 0)=some (Hr X[i].S):=by rw[BB,f2];rfl
   have b6:AQ W (.AL c 1)=some (Hd X[i].S):=by rw[BB,f2];rfl
   obtain⟨d7,a3⟩:=S0.wS _ (BH Bi);have b4:X[i].S.length<=1000:=DV (d7.valid.len hs) (by omega);have a8:∀x∈X[i].S,x.2<2^64:=fun x R=>(dD hs d7 x R).2.2.2;obtain⟨x1,x2,x3,x4,x5⟩:=S0.rows _ (BH Bi);have xm:X[i].id<d:=by have:X[i].id<CL Z:=Fb x1;omega
   have i5:∀k∈X[i].row,k<O.length:=fun k hk=>by have:=(S0.lQ _ (BH Bi) k hk).2;omega
   have c8:∀b:TS,Has b [(0,.AL a 0),(2,.list false 1 (BI O)),(4,.AU d 0 f.length (some f.length)),(6,.AL c 0),(22,ss),(23,.int .i64 (X.length:Int)),(24,.int .i64 (i:Int))]->∀(U:Nat) (x:AV),7<U/\U<65535->54<=U∨U=8∨U=9∨U=10∨U=11->Has (b.set U x) [(0,.AL a 0),(2,.list false 1 (BI O)),(4,.AU d 0 f.length (some f.length)),(6,.AL c 0),(22,ss),(23,.int .i64 (X.length:Int)),(24,.int .i64 (i:Int))]:=fun b H U x h1 W=>by
    simp only[Be,CG,BX]at H⊢;obtain⟨g1,g2,g3,g4,g5,g6,g7⟩:=H;have e:∀j,j≠U->(b.set U x).get j=b.get j:=fun j hj=>by rw[TS.SG _ _ _ _ h1.2,AJ (Aj hj)]
    exact⟨(e _ (by omega)).trans g1,(e _ (by omega)).trans g2,(e _ (by omega)).trans g3,(e _ (by omega)).trans g4,(e _ (by omega)).trans g5,(e _ (by omega)).trans g6,(e _ (by omega)).trans g7⟩
   have rest:∀(Y1:List (Option JM)) (y:JM) (h3:Aa) (c3:Nat) (b:TS),MG g.AB.length f.length d Z Y1 ⟨h3,c3,o⟩->Y1[v]? =some (some y)->y.A.length=X[i].S.length->Wj X O (i+1) Y1->AA h3 c=some (.cells 137 3 (KP g.AB.length X[i]) false)->Has b [(0,.AL a 0),(2,.list false 1 (BI O)),(4,.AU d 0 f.length (some f.length)),(6,.AL c 0),(22,ss),(23,.int .i64 (X.length:Int)),(24,.int .i64 (i:Int))]->b.get 7=.AL d (v*3) ->
    b.get 52=Hd X[i].S->b.get 53=.int .i64 (X[i].S.length:Int)->b.get 54=.int .i64 0->(Dm (Bc E (Ab E (k+2)) C.f100L1) E.k b ⟨h3,c3,o⟩).to fun x=>x.1=.exit 2/\x.2.1.get 6=.AL c 0/\AQ x.2.2.h (.AL c 2)=some (.AU X[i].id 0 g.AB.length (some g.AB.length)) /\
     ∀u:TS,(∀j,j<70->u.get j=x.2.1.get j)->u.get 71=.AU X[i].id 0 g.AB.length (some g.AB.length)->u.get 72=.int .i64 (g.AB.length:Int)->u.get 73=.int .i64 0->(Dm (Bc E (Ab E (k+2)) C.f100L2) E.k u x.2.2).to fun x2=>x2.1=.exit 4/\Has x2.2.1 [(0,.AL a 0),(2,.list false 1 (BI O)),(4,.AU d 0 f.length (some f.length)),(22,ss),(23,.int .i64 (X.length:Int)),(24,.int .i64 (i:Int))]/\x2.2.2.lo=o/\∃Y,MG g.AB.length f.length d Z Y x2.2.2/\Wj X O (i+1) Y:=by
    intro Y1 y h3 c3 b G3 hy b8 f8 f3 d2 w7 h9 g8 f1;refine M.XX (xI (F:=k+2) G3 hy b8 a8 b4 f3 b (fun b=>Has b [(0,.AL a 0),(2,.list false 1 (BI O)),(4,.AU d 0 f.length (some f.length)),(6,.AL c 0),(22,ss),(23,.int .i64 (X.length:Int)),(24,.int .i64 (i:Int))]) d2 (fun b U x h1 W H=>c8 b H U x h1 (by omega)) w7 h9 g8 f1) fun x R=>?_;obtain⟨e,e7,l0⟩:=x;obtain⟨rfl,d4,c6,A',h4,rfl,l4,G4,f4⟩:=R;simp only at d4 c6;have a9:=d4;simp only[Be,CG,BX]at a9;obtain⟨g1,g2,g3,g4,g5,g6,g7⟩:=a9;refine⟨rfl,g4,by show AQ h4 _=_;rw[BB,f4];rfl,fun u L i2 i8 i9=>?_⟩;refine M.XX (xH (F:=k+2) (O:=O) G4 (bT hy) x1 xm x2 i5 d6 V u (fun b=>Has b [(0,.AL a 0),(2,.list false 1 (BI O)),(4,.AU d 0 f.length (some f.length)),(6,.AL c 0),(22,ss),(23,.int .i64 (X.length:Int)),(24,.int .i64 (i:Int))]) (by
     simp only[Be,CG,BX]
     exact⟨(L _ (by omega)).trans g1,(L _ (by omega)).trans g2,(L _ (by omega)).trans g3,(L _ (by omega)).trans g4,(L _ (by omega)).trans g5,(L _ (by omega)).trans g6,(L _ (by omega)).trans g7⟩) (fun b U x h1 W H=>c8 b H U x h1 (by omega)) (fun b H=>by simp only[Be,CG,BX]at H;exact H.2.1) ((L 7 (by omega)).trans c6) i2 i8 i9) fun x R=>?_
    obtain⟨e,j8,j6⟩:=x;obtain⟨rfl,b7,j3,h5,rfl,G5⟩:=R;simp only at b7;simp only[Be,CG,BX]at b7;obtain⟨k1,k2,k3,k4,k5,k6,k7⟩:=b7;refine⟨rfl,by simp only[Be,CG,BX];exact⟨k1,k2,k3,k5,k6,k7⟩,rfl,_,G5,?_⟩;exact (f8.put hy (z:={ y with A:=A' }) rfl).put (bT hy) rfl
   have d5:∀st:St,BZ .slice (.AU X[i].id 0 g.AB.length (some g.AB.length)) st=some (.int .i64 (g.AB.length:Int),st):=fun _=>rfl;have a0:Y[v]? =some (Y[v]'I):=Bu I;cases hy:Y[v]'I with
   |some y=>
    rw[hy]at a0;obtain⟨r0,_,_⟩:=G2.cell a0;have b8:y.A.length=X[i].S.length:=by
     have K:bJ g.AB.length f.length d W y:=G2.ys v y a0;obtain⟨j,hj,i3,j0⟩:=Cv.src v y a0;have a7:j<O.length:=by omega
     have e1:O[j]=O[i]:=by rw[←a4,←i3];simp[List.getD,a7]
     have e2:=Gr.same a7 a6 e1;have e3:(X.getD j ⟨[],0,[]⟩).S=X[j].S:=by simp[List.getD,hj]
     have e4:(X.getD i ⟨[],0,[]⟩).S=X[i].S:=by simp[List.getD,Bi]
     rw[e3,e4]at e2;have e5:=Vw (S:=X[j].S);have e6:=Vw (S:=X[i].S);rw[e2]at e5;rw[K.al,j0,Fz];omega
    simp[C.f100L0,z2,z4,T,P,J,Bi,d9,b5,n1,s1,c1,b2,c9,r0,Uz,kK,b6,yE];refine M.BG (rest Y y W (c+1) _ G2 a0 b8 (Cv.more (by rw[b9];exact a0)) f2 (by simp[z0,z2,z4,T,P,J]) (by simp) (by simp) (by simp) (by simp)) fun x R=>?_;obtain⟨e,e7,⟨h3,c3,j4⟩⟩:=x;obtain⟨rfl,y6,rc,s⟩:=R;simp only at y6 rc s;simp[y6,rc,d5];refine M.BG (s _ (fun j hj=>by simp[show ¬73=j by omega,show ¬72=j by omega,show ¬71=j by omega,show ¬70=j by omega]) (by simp) (by simp) (by simp)) fun x R=>?_;obtain⟨e,u,i1⟩:=x;obtain⟨rfl,r,Q,Y2,G5,e9⟩:=R;simp only at r Q G5;simp only[Be,CG,BX]at r;obtain⟨k1,k2,k3,k5,k6,k7⟩:=r;simp[k7,wi i];exact⟨i+1,by omega,by omega,by simp[k1,k2,k3,k5,k6],Q,Y2,G5,e9⟩
   |none=>
    have d3:=G2.at_ I;rw[hy]at d3;have r0:AQ W (.AL d (v*3))=some .AO:=d3.zero (by simp[II]);obtain⟨t,h3,c3,e3,f3,k9,j7,l5,t3,d1⟩:=yX (k:=k+1) (lo:=o) a3 b4 t2;have e8:AQ h3 (.AL c 1)=some (Hd X[i].S):=by rw[BB,d1 c (by omega),←BB];exact b6
    obtain⟨B,h4,c4,e4,f4,l1,k0,j5,t4,e0⟩:=yY (k:=k+1) (lo:=o) a3 b4 t3;have o4:∀p,p<c+1->AA h4 p=AA W p:=fun p hp=>(e0 p (by omega)).trans (d1 p hp);have G4:MG g.AB.length f.length d Z Y ⟨h4,c4,o⟩:=G2.grow (by omega) t4 o4;obtain⟨h5,e5,f5,t5,a5⟩:=Rs (k:=k+1) (c:=c4) (lo:=o) (HA h4 G4.CY) t4 (by omega) V;have G5:MG g.AB.length f.length d Z Y ⟨h5,c4+1,o⟩:=G4.grow (by omega) t5 fun p hp=>a5 p (by omega);have K:bJ g.AB.length f.length d h5 ⟨X[i].S.map (·.1),X[i].S.map (·.2),t,B,c4,List.replicate g.AB.length (-1)⟩:=by
     refine⟨?_,?_,f5,by simp,by simp,by simp[a3],fun m f9=>?_,fun j hj=>?_,⟨by show d<t;omega,by show d<B;omega,by show d<c4;omega⟩⟩
     ·show AA h5 t=_;rw[a5 t (by omega),e0 t (by omega)];exact f3
     ·show AA h5 B=_;rw[a5 B (by omega)];exact f4
     ·obtain⟨x,R,rfl⟩:=BP.1 f9;exact a8 x R
     ·have:=(QV.1 hj).2;subst this;constructor<;>omega
    obtain⟨d0,G6⟩:=G5.take I hy K (fun w z hz=>by
     have K':bJ g.AB.length f.length d W z:=G2.ys w z hz
     have:=K'.lt
     constructor
     ·show B≠z.XU;omega
     ·show c4≠z.id;omega)
    obtain⟨h6,c5⟩:∃h6,h6=Ah h5 d (.cells 137 3 ((Y.set v (some ⟨X[i].S.map (·.1),X[i].S.map (·.2),t,B,c4,List.replicate g.AB.length (-1)⟩)).flatMap (II g.AB.length)) false):=⟨_,rfl⟩;rw[←c5]at d0 G6;have f6:AA h6 c=some (.cells 137 3 (KP g.AB.length X[i]) false):=by rw[c5,Bn (by omega),a5 c (by omega),o4 c (by omega)];exact f2
    have i7:AQ h6 (.AL c 1)=some (Hd X[i].S):=by rw[BB,f6];rfl
    have g0:Bp [.AO,.AO,.AO] [(0,1),(1,1),(2,1)] [.AU t 0 X[i].S.length none,.AU B 0 X[i].S.length none,.AU c4 0 g.AB.length (some g.AB.length)]=some [.AU t 0 X[i].S.length none,.AU B 0 X[i].S.length none,.AU c4 0 g.AB.length (some g.AB.length)]:=rfl;have c0:BM 3 (.AL d (v*3)) (.agg [.AU t 0 X[i].S.length none,.AU B 0 X[i].S.length none,.AU c4 0 g.AB.length (some g.AB.length)]) ⟨h5,c4+1,o⟩=some (.undef,⟨h6,c4+1,o⟩):=by have:=d0;simp only[II,Fz]at this;exact this
    simp[C.f100L0,z0,z2,z4,T,P,J,Bi,d9,b5,n1,s1,c1,b2,c9,r0,Uz,kK,i6,b6,e3,e4,e5,g0,c0,Dp,DX,Dl,Cc,Tj,Rm,DK,e8,beq_eq,i7,yE];refine M.BG (rest _ _ h6 (c4+1) _ G6 (by rw[FW];simp[I];rfl) (by simp) (Cv.new Bi I b9 rfl) f6 (by simp[z0,z2,z4,T,P,J]) (by simp) (by simp) (by simp) (by simp)) fun x R=>?_;obtain⟨e,e7,⟨h7,c7,k8⟩⟩:=x;obtain⟨rfl,y6,rc,s⟩:=R;simp only at y6 rc s;simp[y6,rc,d5];refine M.BG (s _ (fun j hj=>by simp[show ¬73=j by omega,show ¬72=j by omega,show ¬71=j by omega,show ¬70=j by omega]) (by simp) (by simp) (by simp)) fun x R=>?_;obtain⟨e,u,i1⟩:=x;obtain⟨rfl,r,Q,Y2,G8,i4⟩:=R;simp only at r Q G8;simp only[Be,CG,BX]at r;obtain⟨k1,k2,k3,k5,k6,k7⟩:=r;simp[k7,wi i];exact⟨i+1,by omega,by omega,by simp[k1,k2,k3,k5,k6],Q,Y2,G8,i4⟩
  ·have:i=X.length:=by omega
   subst this;simp[C.f100L0,z0,z4,P,J];exact⟨Y,G1,Cv⟩
 ·exact FX (by show X.length-0<1000000;omega)
 ·exact⟨by omega,by simp[z0,z2,z4,T,P,J],c2,_,G0,⟨fun j hj=>by omega,fun v y hy=>by rw[NW]at hy;split at hy<;>cases hy⟩⟩
theorem Ue{g:Ac}(a:g.Small):g.AB.length<=12:=by have:=a.few;have:=Ac.Qt g;unfold Ac.AB;rw[Bd];omega
theorem ABC{k q c lo x y:Nat}{h:Aa}{l:AV}{g:Ac}(n:AA h q=some (.cells 76 1 [l] false))(o:Gu l g)(w:x<g.AB.length)(p:y<g.AB.length) :
 ∃r:Int,-1<=r/\r<=1/\Ab E (k+3) 97 [.int .i64 (x:Int),.int .i64 (y:Int),.AL q 0] ⟨h,c,lo⟩=.ret (.int .i64 r,⟨h,c,lo⟩):=by
 obtain⟨i,H,f,I,A,rfl,e,_⟩:=o.out;have F:AQ h (.AL q 0)=some (.CB [i,.int .i64 (g.Ae.length:Nat),.int .i64 (g.ix g.Ai:Nat),H,f,.CR (Bf g.AB) (BI (List.range g.AB.length))]):=by rw[BB,n];rfl
 have j:∀(z:Nat),z<g.AB.length->∀d:St,AY 1 i (.int .i64 (z:Int)) d=some (.CB [.str (g.AB.getD z [])],d):=fun z m d=>by
  have t:z<(Bf g.AB).length:=by rw[Gb];exact m
  rw[e.idx t];have:(Bf g.AB)[z]=.str (g.AB.getD z []):=by simp[Bf,List.getD,m]
  rw[this];rfl
 have a:=j x w;have b:=j y p;generalize g.AB.getD x []=sx at a;generalize g.AB.getD y []=sy at b;obtain⟨r,u,D,s⟩:∃r:Int,LU (.str sx) (.str sy) ⟨h,c,lo⟩=some (.int .i64 r,⟨h,c,lo⟩)/\-1<=r/\r<=1:=by
  simp only[LU];split
  ·exact⟨_,rfl,by omega,by omega⟩
  ·split
   ·exact⟨_,rfl,by omega,by omega⟩
   ·exact⟨_,rfl,by omega,by omega⟩
 refine⟨r,D,s,?_⟩;have B:Ab E (k+1) 151 [.str sx,.str sy] ⟨h,c,lo⟩=.ret (.int .i64 r,⟨h,c,lo⟩):=by rw[Av (fn:=C.f151) rfl rfl rfl,Ap (by simp)];simp[C.f151,gM,Ke,u,Al,results,Af]
 have v:Ab E (k+2) 98 [.str sx,.str sy] ⟨h,c,lo⟩=.ret (.int .i64 r,⟨h,c,lo⟩):=by rw[Av (fn:=C.f98) rfl rfl rfl,Ap (by simp)];simp[C.f98,B,Al,results,Af]
 rw[Av (fn:=C.f97) rfl rfl rfl,Ap (by simp)];simp[C.f97,F,a,b,v,Al,results,Af]
structure IL (id:Nat)(ext:Bool)(rest:List AV)(m n:Nat)(h0:Aa)(c lo:Nat)(L:List Nat)(st:St):Prop where
 c:st.c=c
 lo:st.lo=lo
 f:AA st.h id=some (.cells 3 1 (BI L++rest) ext)
 len:L.length=m
 lt:∀x∈L,x<n
 CY:∀p,p≠id->AA st.h p=AA h0 p
 tp:CL st.h=CL h0
section
variable {id m n:Nat}{ext:Bool}{rest:List AV}{h0:Aa}{c lo:Nat}{L:List Nat}{cap:Option Nat}
theorem IL.idx{h:Aa}(H:IL id ext rest m n h0 c lo L ⟨h,c,lo⟩){j:Nat}(a:j<m):AY 1 (.AU id 0 m cap) (.int .i64 (j:Int)) ⟨h,c,lo⟩=some (.AL id j,⟨h,c,lo⟩):=by have b:AA h id=some (.cells 3 1 (BI L++rest) ext):=H.f;simp[AY,Bg,b,blt_eq,a]
theorem IL.rd{h:Aa}(H:IL id ext rest m n h0 c lo L ⟨h,c,lo⟩){j:Nat}(a:j<L.length):AQ h (.AL id j)=some (.int .i64 ((L[j]:Nat):Int)):=by have b:AA h id=some (.cells 3 1 (BI L++rest) ext):=H.f;rw[BB,b,Ik,Oo (by simpa using a)];simp[BI,a]
theorem IL.put{h:Aa}(H:IL id ext rest m n h0 c lo L ⟨h,c,lo⟩)(b:lo<=id){j x:Nat}(r:j<L.length)(o:x<n):BM 1 (.AL id j) (.int .i64 (x:Int)) ⟨h,c,lo⟩=some (.undef,⟨Ah h id (.cells 3 1 (BI (L.set j x)++rest) ext),c,lo⟩)/\IL id ext rest m n h0 c lo (L.set j x) ⟨Ah h id (.cells 3 1 (BI (L.set j x)++rest) ext),c,lo⟩:=by
 have g:AA h id=some (.cells 3 1 (BI L++rest) ext):=H.f;constructor
 ·rw[CE,g,CW];have a:j<(BI L).length:=by simpa using r
  have e:Bl (BI L++rest) j [.int .i64 (x:Int)]=BI (L.set j x)++rest:=by
   have q:BI (L.set j x)=(BI L).set j (.int .i64 (x:Int)):=by simp[BI,GX]
   have k:BI L=(BI L).take j++([(BI L)[j]]++(BI L).drop (j+1)):=by have:=(Kq j (BI L)).symm;rw[MP a]at this;simpa using this
   have key:=OY (A:=(BI L).take j) (B:=[(BI L)[j]]) (C:=(BI L).drop (j+1)++rest) (vs:=[.int .i64 (x:Int)]) rfl;rw[Gv,Li (by omega)]at key;have i:BI L++rest=(BI L).take j++([(BI L)[j]]++((BI L).drop (j+1)++rest)):=by
    conv=>lhs;rw[k]
    simp only[Hz]
   rw[i,key,q,NY,AX a];simp
  have s:(AV.int .i64 (x:Int)).cells=[.int .i64 (x:Int)]:=rfl;rw[AX ⟨rfl,rfl⟩,s,AX ⟨b,by rw[Bd];simp at a⊢;omega⟩,e]
 ·refine⟨rfl,rfl,by show AA (Ah _ _ _) _=_;rw[Fy rfl,g];rfl,by rw[IU];exact H.len,fun y l=>?_,fun p d=>(Bn (Aj d)).trans (H.CY p d),by show CL (Ah _ _ _)=_;rw[Cg];exact H.tp⟩;rcases Kr l with h|rfl
  ·exact H.lt y h
  ·exact o
end
theorem uF{k id m q c lo i:Nat}{ext:Bool}{rest:List AV}{h0:Aa}{cap:Option Nat}{Q:AV}{g:Ac}(U:q≠id)(W:AA h0 q=some (.cells 76 1 [Q] false))(T:Gu Q g)(B:lo<=id)(hm:m<=1000){L:List Nat}{I:St}(N:IL id ext rest m g.AB.length h0 c lo L I)(Z:i<m)(b:TS)(u:b.get 0=.AU id 0 m cap)(p:b.get 1=.int .i64 0)(o:b.get 2=.int .i64 (m:Int))(t:b.get 3=.fn (.func 97) [] [.AL q 0])(v:b.get 8=.int .i64 (i:Int))(s:b.get 9=.int .i64 (i:Int)) :
 (Dm (Bc E (Ab E (k+3)) C.f194L1) E.k b I).to fun x=>x.1=.exit 2/\Has x.2.1 [(0,.AU id 0 m cap),(1,.int .i64 0),(2,.int .i64 (m:Int)),(3,.fn (.func 97) [] [.AL q 0]),(8,.int .i64 (i:Int))]/\∃e,IL id ext rest m g.AB.length h0 c lo e x.2.2:=by
 refine Cy (fun (j:Nat) b I=>j<m/\Has b [(0,.AU id 0 m cap),(1,.int .i64 0),(2,.int .i64 (m:Int)),(3,.fn (.func 97) [] [.AL q 0]),(8,.int .i64 (i:Int)),(9,.int .i64 (j:Int))]/\∃e,IL id ext rest m g.AB.length h0 c lo e I)
  (fun j=>j) ?_ _ i _ _ ?_ ?_
 ·clear u p o t v s N;rintro j b ⟨h,J,n⟩ ⟨hj,A,e,H⟩;have O:=H.c;have R:=H.lo;simp only at O R;subst O R;simp only[Be,CG,BX]at A;obtain⟨u,p,o,t,v,s⟩:=A;have hL:=H.len;by_cases h0j:j=0
  ·subst h0j;simp[C.f194L1,u,p,o,t,v,s,Wd];exact⟨e,H⟩
  ·obtain⟨a,rfl⟩:∃a,j=a+1:=⟨j-1,by omega⟩;have wj:IntKind.i64.wrap ((a:Int)+1-1)=(a:Int):=by rw[wrap64 (by omega) (by omega)];omega
   have D:IntKind.i64.wrap (a:Int)=(a:Int):=wrap64 (by omega) (by omega);have d:a<e.length:=by omega
   have f:a+1<e.length:=by omega
   have y:=H.idx (cap:=cap) (j:=a) (by omega);have K:=H.idx (cap:=cap) (j:=a+1) hj;have z:=H.rd d;have F:=H.rd f;have l:AY 1 (.AU id 0 m cap) (.int .i64 ((a:Int)+1)) ⟨h,J,n⟩=some (.AL id (a+1),⟨h,J,n⟩):=K;obtain⟨r,r1,r2,P⟩:=ABC (k:=k) (c:=J) (lo:=n) ((H.CY q U).trans W) T (H.lt _ (BH f)) (H.lt _ (BH d));have S:decide ((0:Int)<(a:Int)+1)=true:=Bw (by omega);by_cases hr:r<0
   ·obtain⟨Y,H1⟩:=H.put B f (H.lt _ (BH d));obtain⟨V,H2⟩:=H1.put B (j:=a) (x:=e[a+1]) (by rw[IU];exact d) (H.lt _ (BH f));have w:=H1.idx (cap:=cap) (j:=a) (by omega);simp[C.f194L1,u,p,o,t,v,s,Ou,l,F,D,y,z,P,hr,Y,w,V];exact⟨a,by omega,by omega,rfl,_,H2⟩
   ·simp[C.f194L1,u,p,o,t,v,s,Ou,l,F,D,y,z,P,hr];exact⟨e,H⟩
 ·exact FX (by show i<1000000;omega)
 ·exact⟨Z,by simp[u,p,o,t,v,s],L,N⟩
end Go.Am
