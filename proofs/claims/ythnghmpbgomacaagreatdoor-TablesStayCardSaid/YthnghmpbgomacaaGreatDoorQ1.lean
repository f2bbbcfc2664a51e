/- A part of tablesStay. -/
import Derived.Test.YthnghmpbgomacaaGreatDoorL
import Derived.Test.YthnghmpbgomacaaGreatDoorT2
set_option maxHeartbeats 4000000
namespace Go.Am
open Go
def uy(b:UInt8):List AV:=[.int .u8 (b.toNat:Int)]
structure BL (bid:Nat)(out:Bz)(a w:AV)(st:St):Prop where
 at_:AA st.h bid=some (.cells 124 2 [a,w] false)
 adr:a=.DY∨a=.AL bid 0
 buf:Gq st.h 5 1 uy w out
 ne:∀p,Az w=some p->p≠bid/\st.lo<=p
 tp:CL st.h<=st.c
 lo:st.lo<=bid
theorem ZI{k b c e:Nat}{f:Bz}{a w:AV}{h:Aa}(H:BL b f a w ⟨h,c,e⟩) :
 ∃j,Ab E (k+1) 88 [.AL b 0] ⟨h,c,e⟩=.ret (.tuple [],⟨j,c,e⟩)/\BL b f (.AL b 0) w ⟨j,c,e⟩/\∀p,p≠b->AA j p=AA h p:=by
 have d:AA h b=some (.cells 124 2 [a,w] false):=H.at_;have g:e<=b:=H.lo;have l:AQ h (.AL b 0)=some a:=by rw[BB,d];rfl
 rcases H.adr with rfl|rfl
 ·have m:BM 1 (.AL b 0) (.AL b 0) ⟨h,c,e⟩=some (.undef,⟨Ah h b (.cells 124 2 [.AL b 0,w] false),c,e⟩):=by rw[CE,d,CW];simp[AV.isTuple,AV.cells,g]
  have up:Oy 124 2 (.AL b 0) ⟨h,c,e⟩=some (.AL b 0,⟨h,c,e⟩):=by simp[Oy,d,ble_eq]
  refine⟨_,?_,⟨by show AA (Ah h b _) b=_;rw[Fy rfl,d];rfl,.inr rfl,H.buf.heap fun p i=>Bn (Aj (H.ne p i).1),H.ne,by show CL (Ah _ _ _)<=c;rw[Cg];exact H.tp,g⟩,fun p i=>Bn (Aj i)⟩;rw[Av (fn:=C.f88) rfl rfl rfl,Ap (by simp)];simp[C.f88,DT,l,Uz,kK,up,gM,Jd,m,Al,results,Af]
 ·refine⟨h,?_,H,fun p _=>rfl⟩;rw[Av (fn:=C.f88) rfl rfl rfl,Ap (by simp)];simp[C.f88,DT,l,Uz,kK,beq_eq,Al,results,Af]
theorem Gq.app{α:Type}{enc:α->List AV}{b a bytes o:Nat}{w y:AV}{st:St}{N:List α}(d:lenOf y=some N.length)(c:BS st.h a N.length y=some (N.flatMap enc)):Bq o b a bytes w y st=CX o b a bytes w N.length (N.flatMap enc) st:=by cases y<;>simp_all [Bq];all_goals simp[BS]at c
theorem Gq.one{α:Type}{enc:α->List AV}{h:Aa}{ty sz:Nat}{w:AV}{L:List α}(H:Gq h ty sz enc w L):w.isTuple=false/\w.cells=[w]:=by cases H<;>exact⟨rfl,rfl⟩
theorem tL{h:Aa}{o e a n:Nat}{b:List AV}{ext:Bool}(d:AA h o=some (.cells e a b ext))(c:b.length=n*a):BS h a n (.AU o 0 n (some n))=some b:=by simp[BS,d,ble_eq,c];rw[←c];simp
theorem Xp{k d c lo:Nat}{i:Bz}{b:UInt8}{a w:AV}{h:Aa}(H:BL d i a w ⟨h,c,lo⟩)(hl:i.length<=1000000) :
 ∃m z,Ab E (k+2) 238 [.AL d 0,.int .u8 b.toNat] ⟨h,c,lo⟩=.ret (.Ij,⟨z,c+2,lo⟩)/\BL d (i++[b]) (.AL d 0) m ⟨z,c+2,lo⟩/\(∀p,Az m=some p->c<=p∨Az w=some p)/\∀p,p≠d->Az w≠some p->p<c->AA z p=AA h p:=by
 obtain⟨q,U,H1,u⟩:=ZI (k:=k) H;have s:lo<=d:=H.lo;have n:AA q d=some (.cells 124 2 [.AL d 0,w] false):=H1.at_;have D:CL q<=c:=H1.tp;have x:d<c:=Bt (Fb n) D;have W:AQ q (.AL d 1)=some w:=by rw[BB,n];rfl
 have J:BA c (.cells 5 1 [.int .u8 b.toNat] false) ⟨q,c+2,lo⟩=some ⟨(c,.cells 5 1 [.int .u8 b.toNat] false)::q,c+2,lo⟩:=BF D;obtain⟨l,j⟩:∃l:Aa,l=(c,BJ.cells 5 1 [.int .u8 b.toNat] false)::q:=⟨_,rfl⟩;rw[←j]at J;have F:CL l<=c+1:=by rw[j,Ay];omega
 have g:∀p,p<c->AA l p=AA q p:=fun p f=>by rw[j,Ar (by omega)]
 have v:BC c 5 1 1 [.int .u8 0] [0] [.int .u8 (b.toNat:Int)]=some (.AU c 0 1 (some 1),.cells 5 1 [.int .u8 b.toNat] false):=rfl;have T:Gq l 5 1 uy w i:=H1.buf.heap fun p f=>g p (Bt (H1.buf.lt f) D);obtain⟨m,r,Y,I,Q,P,O,_⟩:=Gq.push (enc:=uy) (ty:=5) (sz:=1) (w:=w) (L:=i) (c:=c+2) (lo:=lo) (o:=c+1) (bytes:=1) (fun _=>rfl) (by omega) T F (fun p f=>(H1.ne p f).2) [b] (by simp;omega) (by omega);have Z:Bq (c+1) 5 1 1 w (.AU c 0 1 (some 1)) ⟨l,c+2,lo⟩=some (m,⟨r,c+2,lo⟩):=by have A:BS l 1 [b].length (.AU c 0 1 (some 1))=some ([b].flatMap uy):=tL (by rw[j,BV rfl];rfl) rfl;exact (Gq.app (enc:=uy) (N:=[b]) (y:=.AU c 0 1 (some 1)) (st:=⟨l,c+2,lo⟩) rfl A).trans Y
 have K:AA r d=some (.cells 124 2 [.AL d 0,w] false):=by rw[P d (by omega) (fun e=>(H1.ne d e).1 rfl),g d x];exact n
 have t:∀p,Az m=some p->p≠d/\lo<=p:=fun p f=>by
  rcases O p f with rfl|h
  ·exact⟨by omega,by omega⟩
  ·exact H1.ne p h
 have B:=I.one;have S:BM 1 (.AL d 1) m ⟨r,c+2,lo⟩=some (.undef,⟨Ah r d (.cells 124 2 [.AL d 0,m] false),c+2,lo⟩):=by rw[CE,K,CW];simp[B,s]
 refine⟨m,_,?_,⟨by show AA (Ah r d _) d=_;rw[Fy rfl,K];rfl,.inr rfl,I.heap fun p f=>Bn (Aj (t p f).1),t,by show CL (Ah _ _ _)<=_;rw[Cg];exact Q,s⟩,fun p f=>(O p f).imp (fun e=>by omega) id,fun p f R V=>?_⟩
 ·rw[Av (fn:=C.f238) rfl rfl rfl,Ap (by simp)];simp[C.f238,U,DT,W,v,J,Z,S,Al,results,Af]
 ·show AA (Ah r d _) p=_;rw[Bn (Aj f),P p (by omega) R,g p V];exact u p f
theorem eH{k g c e:Nat}{d:Bz}{a w:AV}{h:Aa}(H:BL g d a w ⟨h,c,e⟩)(K:d.length<=1000000)(o:d≠[]):∃u,Ab E (k+1) 50 [.AL g 0] ⟨h,c,e⟩=.ret (.str d,u):=by
 have r:AA h g=some (.cells 124 2 [a,w] false):=H.at_;have y:AQ h (.AL g 1)=some w:=by rw[BB,r];rfl
 have i:0<d.length:=List.length_pos_iff.2 o;have z:=RZ d;have t:d.flatMap uy=IY d:=by show d.flatMap (fun b:UInt8=>[AV.int .u8 (b.toNat:Int)])=_;simp[IY,MM]
 have f:(IY d).length=d.length:=jk d;have m:=H.ne;have B:=H.buf;rw[Av (fn:=C.f50) rfl rfl rfl,Ap (by simp)];cases B with
 |nl=>simp at i
 |ob id _ rest ext cap l J=>
  rw[t]at l;have l:AA h id=some (.cells 5 1 (IY d++rest) ext):=l;have x:e<=id:=(m id rfl).2;have D:Kk (.AU id 0 d.length cap) ⟨h,c,e⟩=some (.AL id 0,⟨h,c,e⟩):=by simp[Kk,blt_eq,i]
  have j:d.length<=room:=by unfold room;omega
  have v:d.length≠0:=by omega
  have q:(IY d++rest).take d.length=IY d:=by rw[←f,Je]
  have F:d.length<=(IY d++rest).length:=by rw[Bd,f];omega
  have A:Ky 5 (.AL id 0) (.int .i64 (d.length:Int)) ⟨h,c,e⟩=some (.str d,⟨Jv h id,c,e⟩):=by
   have I:Nat.ble e id=true:=Dv x;have n:Nat.blt id e=false:=by rw[blt_eq];simp;omega
   have p:d.length<=(IY d).length+rest.length:=by rw[f];omega
   simp[Ky,Bg,beq_eq,v,ble_eq,j,l,z,n,p,q]
  have s:BZ .slice (.AU id 0 d.length cap) ⟨h,c,e⟩=some (.int .i64 (d.length:Int),⟨h,c,e⟩):=rfl;refine⟨⟨Jv h id,c,e⟩,?_⟩;simp[C.f50,DT,y,s,D,A,Al,results,Af]
def JI:Nat->Nat->Bz
 |0,_=>[]
 |n+1,m=>UInt8.ofNat m::JI n (m / 256)
theorem LF:∀n m,(JI n m).length=n
 |0,_=>rfl
 |n+1,m=>by simp[JI,LF n]
theorem AG8{m:Nat}(a:m<2^64):bin .shr (.int .u64 (m:Int)) (.int .u64 8)=some (.int .u64 ((m / 256:Nat):Int)):=by
 show some (AV.int .u64 ((m:Int).fdiv (2^min (8:Int).toNat IntKind.u64.bits)))=_;have e:(2:Int)^min (8:Int).toNat IntKind.u64.bits=((256:Nat):Int):=by decide
 rw[e,Int.fdiv_eq_ediv_of_nonneg _ (Int.natCast_nonneg _),←Int.natCast_ediv]
theorem AFw{m:Nat}:IntKind.u8.wrap (m:Int)=((UInt8.ofNat m).toNat:Int):=by
 have a:(UInt8.ofNat m).toNat=m % 256:=by simp
 rw[a];unfold IntKind.wrap;simp only[IntKind.signed,IntKind.bits,Bool.false_and,GA,Dn];omega
theorem aG{k d n c s:Nat}{f:Bz}{a w:AV}{h:Aa}(H:BL d f a w ⟨h,c,s⟩)(hn:n<2^64)(hl:f.length<=900000) :
 ∃g K,Ab E (k+3) 205 [.AL d 0,.int .u64 (n:Int)] ⟨h,c,s⟩=.ret (.tuple [],⟨K,c+16,s⟩)/\BL d (f++JI 8 n) (.AL d 0) g ⟨K,c+16,s⟩/\(∀p,Az g=some p->c<=p∨Az w=some p)/\∀p,p≠d->Az w≠some p->p<c->AA K p=AA h p:=by
 rw[Av (fn:=C.f205) rfl rfl rfl,Ap (by simp)];have goal:(Dm (Bc E (Ab E (k+2)) C.f205L0) E.k (((TS.FK [.AL d 0,.int .u64 (n:Int)] 0 .nil)).set 4 (.int .i64 0)) ⟨h,c,s⟩).to fun x=>x.1=.exit 0/\∃r g,BL d (f++JI 8 n) r g x.2.2/\r=.AL d 0/\x.2.2.c=c+16/\x.2.2.lo=s/\(∀p,Az g=some p->c<=p∨Az w=some p)/\∀p,p≠d->Az w≠some p->p<c->AA x.2.2.h p=AA h p:=by
  refine Cy (fun (i:Nat) D A=>i<=8/\D.get 0=.AL d 0/\D.get 4=.int .i64 (i:Int)/\∃m:Nat,m<2^64/\D.get 1=.int .u64 (m:Int)/\∃o r g,f++JI 8 n=o++JI (8-i) m/\o.length=f.length+i/\BL d o r g A/\(0<i->r=.AL d 0)/\A.c=c+2*i/\A.lo=s/\(∀p,Az g=some p->c<=p∨Az w=some p)/\∀p,p≠d->Az w≠some p->p<c->AA A.h p=AA h p)
   (fun i=>8-i) ?_ _ 0 _ _ ?_ ?_
  ·rintro i D ⟨R,c1,N⟩ ⟨hi,z0,Q,m,Y,Z,o,r,g,W,ol,B,ha,z,j,q,v⟩;simp only at z j;subst z j;by_cases u:i<8
   ·obtain⟨w2,h2,T,B2,L,J⟩:=Xp (k:=k) (b:=UInt8.ofNat m) B (by omega);have l:decide ((i:Int)<8)=true:=Bw (by omega);have F:IntKind.i64.wrap ((i:Int)+1)=((i+1:Nat):Int):=by rw[wi i];rfl
    have O:(((UInt8.ofNat m).toNat:Nat):Int)=(m:Int) % 256:=by simp
    rw[O]at T;simp[C.f205L0,z0,Z,Q,l,AFw,T,AG8 Y,F];refine⟨i+1,by omega,by omega,by simp,m / 256,SE (Nat.div_le_self _ _) Y,rfl,o++[UInt8.ofNat m],?_,by simp;omega,_,w2,B2,fun _=>rfl,by omega,?_,fun p t V u=>?_⟩
    ·rw[W,show 8-i=(8-(i+1))+1 by omega,JI];simp
    ·intro p t;rcases L p t with h|h
     ·exact .inl (by omega)
     ·exact q p h
    ·rw[J p t ?_ (by omega)]
     ·exact v p t V u
     ·intro e;rcases q p e with h|h
      ·omega
      ·exact V h
   ·have:i=8:=by omega
    subst this;have l:decide (((8:Nat):Int)<8)=false:=by decide
    simp[C.f205L0,Q];have I:=ha (by omega);subst I;refine⟨_,g,?_,rfl,q,v⟩;rw[W];simpa [JI]using B
  ·exact FX (by show 8-0<1000000;omega)
  ·exact⟨by omega,by simp,by simp,n,hn,by simp,f,a,w,rfl,by simp,H,fun h=>absurd h (by omega),rfl,rfl,fun p t=>.inr t,fun _ _ _ _=>rfl⟩
 obtain⟨⟨e,a0,⟨R,c1,N⟩⟩,P,U,r,g,B,rfl,S,y,ow,v⟩:=goal;simp only at U S y B v;subst U S y;refine⟨g,R,?_,B,ow,v⟩;simp at P;simp[C.f205,P,Al,results,Af]
def Kl(m:Nat):List AV:=[.int .u64 (m:Int)]
def qi{α:Type}(c:Nat)(h:Aa)(sz:Nat)(enc:α->List AV)(w:AV)(L:List α):Prop:=∀h':Aa,(∀p,p<c->AA h' p=AA h p)->RS h' sz enc w L
theorem qi.self{α:Type}{c b:Nat}{h:Aa}{a:α->List AV}{w:AV}{L:List α}(H:qi c h b a w L):RS h b a w L:=H h fun _ _=>rfl
theorem qi.gs{α:Type}{c g b:Nat}{h:Aa}{a:α->List AV}{w:AV}{L:List α}(G:Gq h g b a w L)(f:∀x,(a x).length=b)(i:∀p,Az w=some p->p<c):qi c h b a w L:=fun _ e=>(G.heap fun p d=>e p (i p d)).rs f
structure StV (c:Nat)(h:Aa)(v:AV)(S:Ig)(to:AV):Prop where
 out:∃pl ah,v=.agg [pl,ah,to]/\qi c h 2 Bh pl (S.map (·.1))/\qi c h 1 Kl ah (S.map (·.2))
def gI(p:Place):Nat:=(p.1+1).toNat*256+p.2
def keyOf(whole:Bool)(S:Ig):Bz:=S.flatMap fun x=>JI 8 (gI x.1)++bif whole then JI 8 x.2 else []
theorem iU{whole:Bool}:∀{S:Ig},(keyOf whole S).length<=16*S.length
 |[]=>by simp[keyOf]
 |x::S=>by
  have a:=iU (whole:=whole) (S:=S);have e:keyOf whole (x::S)=(JI 8 (gI x.1)++bif whole then JI 8 x.2 else [])++keyOf whole S:=by simp[keyOf]
  rw[e,Bd,Bd,LF,FV];cases whole<;>simp[LF]<;>omega
theorem xx{whole:Bool}{S:Ig}(h:S≠[]):keyOf whole S≠[]:=by
 cases S with
 |nil=>exact absurd rfl h
 |cons x S=>simp[keyOf,JI]
theorem Vw:∀{S:Ig},(keyOf false S).length=8*S.length
 |[]=>rfl
 |x::S=>by
  have a:=Vw (S:=S);have e:keyOf false (x::S)=JI 8 (gI x.1)++keyOf false S:=by simp[keyOf]
  rw[e,Bd,LF,FV,a];omega
theorem AG9{m:Nat}(a:m<2^40):bin .shl (.int .u64 (m:Int)) (.int .u64 8)=some (.int .u64 ((m*256:Nat):Int)):=by
 show some (AV.int .u64 (IntKind.u64.wrap ((m:Int)*2^min (8:Int).toNat IntKind.u64.bits)))=_;have e:(2:Int)^min (8:Int).toNat IntKind.u64.bits=((256:Nat):Int):=by decide
 rw[e,←Int.natCast_mul,OV (by omega)]
theorem ACa{a b:Nat}(c:b<256):a*256 ||| b=a*256+b:=by have:=Nat.two_pow_add_eq_or_of_lt (i:=8) (b:=b) (by simpa using c) a;rw[Nat.mul_comm];exact this.symm
theorem dC{k:Nat}{v to:AV}{S:Ig}{whole:Bool}{st:St}(hv:StV st.c st.h v S to)(b9:S≠[])(hl:S.length<=1000)(hb:CL st.h<=st.c)(d4:v.isTuple=false)(hS:∀x∈S,-1<=x.1.1/\x.1.1<1000/\x.1.2<256/\x.2<2^64) :
 Ab E (k+4) 154 [v,.bool whole] st=.ret (.str (keyOf whole S),st):=by
 obtain⟨D,O,rfl,I,R⟩:=hv.out;rw[FD (fn:=C.f154) rfl rfl rfl,Ap (by simp)];obtain⟨h,c,lo⟩:=st;have hb:CL h<=c:=hb;have I:qi c h 2 Bh D (S.map (·.1)):=I;have R:qi c h 1 Kl O (S.map (·.2)):=R;obtain⟨h1,J⟩:∃h1:Aa,h1=(c,BJ.cells 137 3 [D,O,to] false)::h:=⟨_,rfl⟩;have n1:BA c (.cells 137 3 [D,O,to] false) ⟨h,c+1,c⟩=some ⟨h1,c+1,c⟩:=by rw[J];exact BF hb
 have t1:CL h1<=c+1:=by rw[J,Ay];omega
 obtain⟨s,t⟩:∃s:Aa,s=(c+1,BJ.cells 124 2 [.DY,.AO] false)::h1:=⟨_,rfl⟩;have n2:BA (c+1) (.cells 124 2 [.DY,.AO] false) ⟨h1,c+2,c⟩=some ⟨s,c+2,c⟩:=by rw[t];exact BF t1
 have t2:CL s<=c+2:=by rw[t,Ay];omega
 have f1:AA s c=some (.cells 137 3 [D,O,to] false):=by rw[t,Ar (by omega),J,BV rfl]
 have f2:AA s (c+1)=some (.cells 124 2 [.DY,.AO] false):=by rw[t,BV rfl]
 have Q:∀p,p<c->AA s p=AA h p:=fun p f=>by rw[t,Ar (by omega),J,Ar (by omega)]
 have B0:BL (c+1) [] .DY .AO ⟨s,c+2,c⟩:=⟨f2,.inl rfl,.nl,(fun p f=>by cases f),t2,by show c<=c+1;omega⟩;have r0:AQ s (.AL c 0)=some D:=by rw[BB,f1];rfl
 have V:∀st:St,BZ .slice D st=some (.int .i64 (S.length:Int),st):=fun st=>by have:=I.self.BZ st;simpa using this
 have goal:((Bc E (Ab E (k+3)) C.f154.body (TS.FK [.agg [D,O,to],.bool whole] 0 .nil) ⟨h,c,c⟩).bind (Al C.f154.results)).to fun x=>x.1=.str (keyOf whole S):=by
  simp[C.f154,n1,n2,r0,V];refine M.BG (Df (fun (i:Nat) F st=>i<=S.length/\F.get 1=.bool whole/\F.get 2=.AL c 0/\F.get 5=.AL (c+1) 0/\F.get 9=D/\F.get 10=.int .i64 (S.length:Int)/\F.get 11=.int .i64 (i:Int)/\∃o U P,keyOf whole S=o++keyOf whole (S.drop i)/\o.length<=16*i/\BL (c+1) o U P st/\st.lo=c/\c+2<=st.c/\(∀p,Az P=some p->c+2<=p)/\∀p,p<=c->AA st.h p=AA s p)
   (fun i=>S.length-i) (fun e F st=>e=.exit 0/\F.get 5=.AL (c+1) 0/\st.lo=c/\∃U P,BL (c+1) (keyOf whole S) U P st) ?_ _ 0 _ _ ?_ ?_) ?_
  ·rintro i F ⟨z,b,c0⟩ ⟨hi,z1,z2,z5,z9,T,a0,o,U,P,eo,ol,B,g,d1,ow,fr⟩;simp only at g d1 fr;have j:=g.symm;subst j;by_cases Bi:i<S.length
   ·have hx:=hS _ (BH Bi);obtain⟨r,d,m,H⟩:∃r d m,S[i]=((r,d),m):=⟨_,_,_,rfl⟩;rw[H]at hx;simp only at hx;obtain⟨d5,d3,hd,hm⟩:=hx;obtain⟨a,rfl⟩:∃a:Nat,r=(a:Int)-1:=⟨(r+1).toNat,by omega⟩;have d2:a<1001:=by omega
    have a3:CL z<=b:=B.tp;have a7:RS z 2 Bh D (S.map (·.1)):=I z fun p f=>(fr p (by omega)).trans (Q p f);obtain⟨q,a1,b1⟩:=a7.at_ i (by simpa using Bi);have e1:(S.map (·.1))[i]'(by simpa using Bi)=(((a:Int)-1),d):=by simp[H]
    rw[e1]at b1;have Y:=b1.all;simp only[Bh,FV,GY,Dz]at Y;obtain⟨A,K⟩:∃A:Aa,A=(b,BJ.cells 212 2 [.int .i64 ((a:Int)-1),.int .i64 (d:Int)] false)::z:=⟨_,rfl⟩;have n3:BA b (.cells 212 2 [.int .i64 0,.int .i64 0] false) ⟨z,b+1,c⟩=some ⟨(b,.cells 212 2 [.int .i64 0,.int .i64 0] false)::z,b+1,c⟩:=BF a3;have b6:c<=b:=by omega
    have s3:BM 2 (.AL b 0) (.agg [.int .i64 ((a:Int)-1),.int .i64 (d:Int)]) ⟨(b,.cells 212 2 [.int .i64 0,.int .i64 0] false)::z,b+1,c⟩=some (.undef,⟨A,b+1,c⟩):=by rw[CE,BV rfl,CW,K];simp[AV.isTuple,AV.cells,b6,Bl,dN]
    have f4:AA A b=some (.cells 212 2 [.int .i64 ((a:Int)-1),.int .i64 (d:Int)] false):=by rw[K,BV rfl]
    have u:∀p,p<b->AA A p=AA z p:=fun p f=>by rw[K,Ar (by omega)]
    have B4:BL (c+1) o U P ⟨A,b+1,c⟩:=⟨(u _ (Bt (Fb B.at_) a3)).trans B.at_,B.adr,B.buf.heap fun p f=>u p (Bt (B.buf.lt f) a3),B.ne,by show CL A<=b+1;rw[K,Ay];omega,by show c<=c+1;omega⟩;have a6:AQ A (.AL b 0)=some (.int .i64 ((a:Int)-1)):=by rw[BB,f4];rfl
    have b3:AQ A (.AL b 1)=some (.int .i64 (d:Int)):=by rw[BB,f4];rfl
    have w1:IntKind.i64.wrap ((a:Int)-1+1)=(a:Int):=by rw[wrap64 (by omega) (by omega)];omega
    have a9:IntKind.i64.wrap (a:Int)=(a:Int):=wrap64 (by omega) (by omega);have w2:IntKind.u64.wrap (a:Int)=(a:Int):=OV (by omega);have w3:IntKind.u64.wrap (d:Int)=(d:Int):=OV (by omega);have c8:bin .or (.int .u64 ((a*256:Nat):Int)) (.int .u64 (d:Int))=some (.int .u64 ((a*256+d:Nat):Int)):=by rw[Qs (by omega) (by omega),ACa hd]
    have d0:gI ((a:Int)-1,d)=a*256+d:=by unfold gI;simp only;congr 2;omega
    obtain⟨w5,Z,e5,B5,c2,c9⟩:=aG (k:=k) (n:=a*256+d) B4 (by omega) (by omega);have N:keyOf whole (S.drop i)=JI 8 (a*256+d)++((bif whole then JI 8 m else [])++keyOf whole (S.drop (i+1))):=by rw[MP Bi,H];simp only[keyOf,Cn,d0,Hz]
    have l:∀p,p<=c->AA Z p=AA s p:=fun p f=>by rw[c9 p (by omega) (fun e=>by have:=ow p e;omega) (by omega),u p (by omega)];exact fr p f
    have y:∀p,Az w5=some p->c+2<=p:=fun p f=>by
     rcases c2 p f with e|e
     ·omega
     ·exact ow p e
    have b0:∀W,AY 2 D (.int .i64 (i:Int)) ⟨z,W,c⟩=some (q,⟨z,W,c⟩):=fun W=>a1 _ rfl;have a4:Ab E (k+3) 205 [.AL (c+1) 0,.int .u64 ((a:Int)*256+(d:Int))] ⟨A,b+1,c⟩=.ret (.tuple [],⟨Z,b+1+16,c⟩):=by
     have:(((a*256+d:Nat)):Int)=(a:Int)*256+(d:Int):=by omega
     rw[←this];exact e5
    have L:bin .or (.int .u64 ((a:Int)*256)) (.int .u64 (d:Int))=some (.int .u64 ((a:Int)*256+(d:Int))):=by have:=c8;simpa using this
    have b5:bin .shl (.int .u64 (a:Int)) (.int .u64 8)=some (.int .u64 ((a:Int)*256)):=by have:=AG9 (m:=a) (by omega);simpa using this
    cases whole with
    |false=>simp[C.f154L0,z1,z2,z5,z9,T,a0,Bi,b0,Y,n3,s3,a6,b3,a9,w2,w3,b5,L,a4,wi i];refine⟨i+1,by omega,by omega,by simp,o++JI 8 (a*256+d),?_,by simp[LF];omega,⟨_,w5,B5,by omega,y,l⟩⟩;rw[eo,N];simp
    |true=>
     have a5:RS Z 1 Kl O (S.map (·.2)):=R Z fun p f=>(l p (by omega)).trans (Q p f);obtain⟨q2,a2,b2⟩:=a5.at_ i (by simpa using Bi);have e2:(S.map (·.2))[i]'(by simpa using Bi)=m:=by simp[H]
     rw[e2]at b2;have a8:=b2.zero (by simp[Kl]);simp only[Kl,NU]at a8;have c4:∀W,AY 1 O (.int .i64 (i:Int)) ⟨Z,W,c⟩=some (q2,⟨Z,W,c⟩):=fun W=>a2 _ rfl;have c6:AQ Z (.AL c 1)=some O:=by rw[BB,l c (Ao _),f1];rfl
     obtain⟨w6,h6,e6,B6,c1,c5⟩:=aG (k:=k) (n:=m) B5 hm (by simp[LF];omega);have b4:∀p,p<=c->AA h6 p=AA s p:=fun p f=>by rw[c5 p (by omega) (fun e=>by have:=y p e;omega) (by omega)];exact l p f
     have b7:∀p,Az w6=some p->c+2<=p:=fun p f=>by
      rcases c1 p f with e|e
      ·omega
      ·exact y p e
     simp[C.f154L0,z1,z2,z5,z9,T,a0,Bi,b0,Y,n3,s3,a6,b3,a9,w2,w3,b5,L,a4,wi i,c6,c4,a8,e6];refine⟨i+1,by omega,by omega,by simp,o++JI 8 (a*256+d)++JI 8 m,?_,by simp[LF];omega,⟨_,w6,B6,by omega,b7,b4⟩⟩;rw[eo,N];simp
   ·have:i=S.length:=by omega
    subst this;simp[C.f154L0,z5,T,a0];refine⟨U,P,?_⟩;rw[eo];simpa [keyOf]using B
  ·exact FX (by show S.length-0<1000000;omega)
  ·exact⟨by omega,by simp,by simp,by simp,by simp,by simp,by simp,[],.DY,.AO,by simp,by simp,B0,rfl,Ao _,(fun p f=>by cases f),fun _ _=>rfl⟩
  ·rintro⟨e,F,⟨z,b,c0⟩⟩ ⟨rfl,z5,g,U,P,B⟩;simp only at z5 g;have j:=g.symm;subst j;have d6:(keyOf whole S).length<=16*S.length:=iU;have b8:keyOf whole S≠[]:=xx b9;obtain⟨c7,e3⟩:=eH (k:=k+2) B (by omega) b8;simp[z5,e3,Al,results,Af]
 obtain⟨⟨w,c7⟩,r1,r2⟩:=goal;simp only at r2;subst r2;rw[r1];simp
end Go.Am
namespace Go.Am
open Go
def JQ(m:Nat):AV:=.int .u64 (m:Int)
theorem Ui{M:Ig}{p:Place}:((IE M p).map JQ).getD (.int .u64 0)=.int .u64 ((CR M p:Nat):Int):=by unfold CR;cases IE M p<;>rfl
theorem xU{M:Ig}{p:Place}:JQ ((IE M p).getD 0)=.int .u64 ((CR M p:Nat):Int):=rfl
theorem PX{g:Ac}(H:g.kZ){r:Int}(d:-1<=r)(c:r<g.AP.length){s:Bz}(b:s∈g.Dk r):s∈g.AB:=by
 by_cases h0:r=-1
 ·subst h0;rw[Rp,Di]at b;subst b;exact Ca.2 (.inr H.ok.Ai)
 ·obtain⟨n,rfl⟩:∃n:Nat,r=(n:Int):=⟨r.toNat,by omega⟩;have a:n<g.AP.length:=by omega
  rw[Ox,List.getD,Bu a]at b;exact Ac.NF H.ok (BH a) b
def ZT(g:Ac)(F:List Nat)(N:List Bool)(M:Ig)(p:Place):Nat:=bif (fo F N ((g.DR p.1).drop (p.2+1))).2 then (fo F N ((g.DR p.1).drop (p.2+1))).1 ||| CR M p else (fo F N ((g.DR p.1).drop (p.2+1))).1
theorem ABQ{g:Ac}{F:List Nat}{N:List Bool}(H:kT g F N){M:Ig}(V:Valid g M){p:Place}{A:Bz}(r:-1<=p.1)(m:p.1<g.AP.length)(t:(g.Dk p.1)[p.2]? =some A) :
 zX g (CR M) p A (ZT g F N M p)/\∀j,(ZT g F N M p).testBit j=true->j=60∨j<g.Ae.length:=by
 have i:∀s∈(g.Dk p.1).drop (p.2+1),s∈g.AB:=fun s o=>PX H.Nf r m (NC o);have k:(g.DR p.1).drop (p.2+1)=((g.Dk p.1).drop (p.2+1)).map g.ix:=by unfold Ac.DR;rw[List.map_drop]
 have d:=yN H.null H.exact i;have f:=AAs (F:=F) H.null i;rw[←k]at d f;have u:=H.Nf.small.Ae;have c:∀b,Lets g (fo F N ((g.DR p.1).drop (p.2+1))).1 b↔XV g b ((g.Dk p.1).drop (p.2+1)):=fun b=>by
  constructor
  ·rintro (⟨_,h⟩|⟨j,h,q⟩)
   ·obtain⟨a,_⟩:=(d 60).1 h;omega
   ·obtain⟨a,n⟩:=(d j).1 q;obtain⟨l,e⟩:=GJ.1 h;rw[←e];exact n
  ·intro h;obtain⟨j,a,e⟩:=Du h.Ae;exact .inr ⟨j,by rw[Bu a,e],(d j).2 ⟨a,by rw[e];exact h⟩⟩
 refine⟨⟨t,fun b=>?_⟩,fun j a=>?_⟩
 ·unfold ZT;cases hc:(fo F N ((g.DR p.1).drop (p.2+1))).2 with
  |true=>rw[Ba,Xc,c];have:=f.1 hc;exact or_congr_right ⟨fun h=>⟨this,h⟩,fun h=>h.2⟩
  |false=>
   rw[Bj,c];constructor
   ·exact .inl
   ·rintro (h|⟨h,_⟩)
    ·exact h
    ·rw[f.2 h]at hc;cases hc
 ·unfold ZT at a;have h0:∀j,(fo F N ((g.DR p.1).drop (p.2+1))).1.testBit j=true->j=60∨j<g.Ae.length:=fun j h=>.inr ((d j).1 h).1;cases hc:(fo F N ((g.DR p.1).drop (p.2+1))).2 with
  |true=>
   rw[hc,Ba,Hw,FO]at a;rcases a with h|h
   ·exact h0 j h
   ·exact V.aP h
  |false=>rw[hc,Bj]at a;exact h0 j a
structure CF (it:BJ)(c:Nat)(h0:Aa)(M:Ig)(w:AV)(L:List Place)(st:St):Prop where
 lo:st.lo=c
 c3:c+3<=st.c
 tp:CL st.h<=st.c
 CY:∀p,p<c->AA st.h p=AA h0 p
 res:AA st.h c=some (.cells 137 3 [.AO,.AO,.AO] false)
 map:AA st.h (c+1)=some (Gj FR JQ M)
 todo:Gq st.h 212 2 Bh w L
 own:∀p,Az w=some p->c+3<=p
 nP:AA st.h (c+2)=some it
variable {it:BJ}{c:Nat}{h0:Aa}{M:Ig}{w:AV}{L:List Place}
theorem CF.grow{h f:Aa}{a b:Nat}(H:CF it c h0 M w L ⟨h,a,c⟩)(k:a<=b)(i:CL f<=b)(e:∀p,p<a->AA f p=AA h p):CF it c h0 M w L ⟨f,b,c⟩:=by have j:c+3<=a:=H.c3;have g:CL h<=a:=H.tp;exact⟨rfl,by show c+3<=b;omega,i,fun p d=>(e p (by omega)).trans (H.CY p d),(e c (by omega)).trans H.res,(e (c+1) (by omega)).trans H.map,H.todo.heap fun p d=>e p (Bt (H.todo.lt d) g),H.own,(e (c+2) (by omega)).trans H.nP⟩
theorem CF.put{h:Aa}{d:Nat}(H:CF it c h0 M w L ⟨h,d,c⟩)(b:Ig):CF it c h0 b w L ⟨Ah h (c+1) (Gj FR JQ b),d,c⟩:=by have f:AA h (c+1)=some (Gj FR JQ M):=H.map;refine⟨rfl,H.c3,by show CL (Ah _ _ _)<=_;rw[Cg];exact H.tp,fun p a=>(Bn (by omega)).trans (H.CY p a),(Bn (by omega)).trans H.res,by show AA (Ah _ _ _) _=_;rw[Fy rfl,f];rfl,H.todo.heap fun p a=>Bn fun e=>?_,H.own,(Bn (by omega)).trans H.nP⟩;have:=H.own p a;omega
theorem CF.push{h:Aa}{c1:Nat}(H:CF it c h0 M w L ⟨h,c1,c⟩)(p:Place)(m:L.length<2^20) :
 BC c1 212 2 1 [.int .i64 0,.int .i64 0] [0] [FR p]=some (.AU c1 0 1 (some 1),.cells 212 2 (Bh p) false)/\∃d a b,BA c1 (.cells 212 2 (Bh p) false) ⟨h,c1+2,c⟩=some ⟨d,c1+2,c⟩/\Bq (c1+1) 212 2 16 w (.AU c1 0 1 (some 1)) ⟨d,c1+2,c⟩=some (a,⟨b,c1+2,c⟩)/\CF it c h0 M a (L++[p]) ⟨b,c1+2,c⟩:=by
 have s:c+3<=c1:=H.c3;have o:CL h<=c1:=H.tp;obtain⟨l,d,a,b,n,j,G,k,f,r,_⟩:=JE (c':=c1+2) (bytes:=16) (zero:=[.int .i64 0,.int .i64 0]) (v:=FR p) (x:=p) (enc:=Bh) (sz:=2) (fun _=>rfl) (by omega) H.todo o (lo:=c) (fun p i=>by have:=H.own p i;omega) rfl rfl rfl m (by omega);have own:∀q,Az w=some q->c+3<=q:=H.own;refine⟨l,d,a,b,n,j,rfl,by show c+3<=c1+2;omega,k,fun q g=>(f q (by omega) fun e=>by have:=own q e;omega).trans (H.CY q g),(f c (by omega) fun e=>by have:=own c e;omega).trans H.res,(f (c+1) (by omega) fun e=>by have:=own _ e;omega).trans H.map,G,fun q g=>?_,(f (c+2) (by omega) fun e=>by have:=own _ e;omega).trans H.nP⟩;rcases r q g with e|e
 ·omega
 ·exact own q e
theorem Ws{s:Nat}{b:KK}{zero x y:AV}{a:Bool}{c:St}:step s (.lookup b zero a) [x,y] c=FT b zero a x y c:=rfl
@[simp] theorem AFz(a b:Int):Bp [.int .i64 0,.int .i64 0] [(0,1),(1,1)] [.int .i64 a,.int .i64 b]=some [.int .i64 a,.int .i64 b]:=rfl
theorem ax{F m:Nat}{g:Ac}{K:It->Prop}{M0:Ig}{p:Place}{A:Bz}{R:List Nat}{av B:AV}(hs:g.Small)(hR:∀n∈R,n<g.AP.length/\(g.AP.getD n default).left=A)(a9:Co B 1 (BI R))(b5:R.length<=1000){st:St}(C0:CF it c h0 M w L st)(W0:vI g K M0 p A m R 0 M L)(hB:2*TM g M+L.length<=100000)(o:TS)(I:o.get 0=av)(H:o.get 4=.AL c 0)(J:o.get 5=.Cq (c+1))(O:o.get 6=w)(u:o.get 11=.int .u64 (m:Int))(f:o.get 106=B)(z107:o.get 107=.int .i64 (R.length:Int))(d:o.get 108=.int .i64 0) :
 (Dm (Bc E (Ab E F) C.f152L2) E.k o st).to fun x=>x.1=.exit 4/\x.2.1.get 0=av/\x.2.1.get 4=.AL c 0/\x.2.1.get 5=.Cq (c+1)/\∃a D s,x.2.1.get 6=D/\CF it c h0 a D s x.2.2/\vI g K M0 p A m R R.length a s/\2*TM g a+s.length<=2*TM g M+L.length:=by
 refine Cy (fun (i:Nat) o st=>i<=R.length/\Has o [(0,av),(4,.AL c 0),(5,.Cq (c+1)),(11,.int .u64 (m:Int)),(106,B),(107,.int .i64 (R.length:Int)),(108,.int .i64 (i:Int))]/\∃a D s,o.get 6=D/\CF it c h0 a D s st/\vI g K M0 p A m R i a s/\2*TM g a+s.length<=2*TM g M+L.length)
  (fun i=>R.length-i) ?_ _ 0 _ _ ?_ ?_
 ·clear I H J O u f z107 d;rintro i o ⟨h,l,lo⟩ ⟨hi,T,a,D,s,O,Y,W,V⟩;simp only[Be,CG,BX]at T;obtain⟨I,H,J,u,f,z107,d⟩:=T;have a4:lo=c:=Y.lo;subst a4;have h3:lo+3<=l:=Y.c3;have tp:CL h<=l:=Y.tp;have r:m<2^64:=Xl (n:=g.Ae.length) (by have:=hs.Ae;omega) W.mb;by_cases Bi:i<R.length
  ·obtain⟨Q,Z⟩:=hR _ (BH Bi);obtain⟨q,a1,b1⟩:=(RL.sl (h:=h) a9).rs.at_ i Bi;have b2:=b1.zero (by simp[Fx]);simp only[Fx,NU]at b2;have a2:=a1 ⟨h,l,lo⟩ rfl;obtain⟨h1,N,n1,s1,f2,t2,a5⟩:=Ih (c':=l+1) (ty:=212) (sz:=2) (n:=2) (v:=.agg [.int .i64 ((R[i]:Nat):Int),.int .i64 0]) (zero:=[.int .i64 0,.int .i64 0]) tp (lo:=lo) (by omega) rfl rfl rfl rfl;have C2:CF it lo h0 a D s ⟨N,l+1,lo⟩:=Y.grow (by omega) t2 fun p hp=>a5 p (by omega);have r2:Ak N (.AL l 0) 2=some [.int .i64 ((R[i]:Nat):Int),.int .i64 0]:=by rw[Bv,f2];rfl
   have lk:∀cc,FT (.many [.int,.int]) (.int .u64 0) false (.Cq (lo+1)) (.agg [.int .i64 ((R[i]:Nat):Int),.int .i64 0]) ⟨N,cc,lo⟩=some (.int .u64 ((CR a ((R[i]:Int),0):Nat):Int),⟨N,cc,lo⟩):=fun cc=>by have:=Sq (c:=cc) (lo:=lo) (zero:=.int .u64 0) NM C2.map ((R[i]:Int),0);rw[Ui]at this;exact this
   have t:CR a ((R[i]:Int),0)<2^64:=W.val.AFZ hs _;by_cases hz:Vq m (CR a ((R[i]:Int),0))=0
   ·have W1:=W.same Bi ((Sm r t).1 hz);have z:((Vq m (CR a ((R[i]:Int),0)):Nat):Int)=0:=by rw[hz];rfl
    simp[C.f152L2,I,H,J,O,u,f,z107,d,Bi,a2,b2,n1,s1,r2,lk,Yh,z,wi i];exact⟨i+1,by omega,by omega,by simp,a,s,C2,W1,V⟩
   ·obtain⟨j,y,b0⟩:∃j,m.testBit j=true/\(CR a ((R[i]:Int),0)).testBit j=false:=by
     refine Qb fun hn=>hz ((Sm r t).2 fun j hj=>?_);cases hb:(CR a ((R[i]:Int),0)).testBit j with
     |true=>rfl
     |false=>exact absurd ⟨j,hj,hb⟩ hn
    have a6:m≠0:=fun e=>by rw[e]at y;simp at y
    have W1:=W.more Bi Q Z a6;have U:j<61:=by have:=hs.Ae;rcases W.mb j y with h|h<;>omega
    have b4:=uV (M:=a) Q U y b0;have z:(((Vq m (CR a ((R[i]:Int),0)):Nat):Int) !=0)=true:=Ho.2 (by omega);obtain⟨b,h5,e1,e2,e3⟩:=iQ (c:=l+1) (lo:=lo) (ev:=JQ) NM C2.map (by omega) ((R[i]:Int),0) 0;have P:=e3 (CR a ((R[i]:Int),0) ||| m);have a7:bin .or (.int .u64 ((CR a ((R[i]:Int),0):Nat):Int)) (.int .u64 (m:Int))=some (.int .u64 ((CR a ((R[i]:Int),0) ||| m:Nat):Int)):=Qs t r;have C3:=C2.put (Iw a ((R[i]:Int),0) (CR a ((R[i]:Int),0) ||| m));obtain⟨h6,S⟩:∃h6,h6=Ah N (lo+1) (Gj FR JQ (Iw a ((R[i]:Int),0) (CR a ((R[i]:Int),0) ||| m))):=⟨_,rfl⟩;rw[←S]at C3 P;have b3:Ir (.many [.int,.int]) (.int .u64 0) (.Cq (lo+1)) (.agg [.int .i64 ((R[i]:Nat):Int),.int .i64 0]) ⟨N,l+1,lo⟩=some (.tuple [.int .u64 ((CR a ((R[i]:Int),0):Nat):Int),.int .i64 (b:Int)],⟨h5,l+1,lo⟩):=e1;have a3:FT (.many [.int,.int]) (.int .u64 0) false (.Cq (lo+1)) (.agg [.int .i64 ((R[i]:Nat):Int),.int .i64 0]) ⟨h5,l+1,lo⟩=some (.int .u64 ((CR a ((R[i]:Int),0):Nat):Int),⟨h5,l+1,lo⟩):=e2;have a0:Ha (.Cq (lo+1)) (.int .i64 (b:Int)) (.int .u64 ((CR a ((R[i]:Int),0) ||| m:Nat):Int)) ⟨h5,l+1,lo⟩=some (.undef,⟨h6,l+1,lo⟩):=P;have r6:Ak h6 (.AL l 0) 2=some [.int .i64 ((R[i]:Nat):Int),.int .i64 0]:=by rw[Bv,S,Bn (by omega),f2];rfl
    obtain⟨p1,h7,w8,h8,p2,p3,C4⟩:=C3.push ((R[i]:Int),0) (by omega);have a8:BC (l+1) 212 2 1 [.int .i64 0,.int .i64 0] [0] [.agg [.int .i64 ((R[i]:Nat):Int),.int .i64 0]]=some (.AU (l+1) 0 1 (some 1),.cells 212 2 (Bh ((R[i]:Int),0)) false):=p1;simp[C.f152L2,I,H,J,O,u,f,z107,d,Bi,a2,b2,n1,s1,r2,lk,Yh,z,wi i,Dp,DX,Dl,Cc,Tj,Rm,Ws,beq_eq,a7,b3,a3,a0,r6,a8,p2,p3];refine⟨i+1,by omega,by omega,by simp,_,_,C4,W1,?_⟩;simp only[Bd,Fq];omega
  ·have:i=R.length:=by omega
   subst this;simp[C.f152L2,I,H,J,O,z107,d];exact⟨a,s,Y,W,V⟩
 ·exact FX (by show R.length-0<1000000;omega)
 ·exact⟨by omega,by simp[I,H,J,u,f,z107,d],M,w,L,O,C0,W0,Ao _⟩
end Go.Am
namespace Go.Am
open Go
theorem RS.rd{h:Aa}{w:AV}{l:List Nat}(H:RS h 1 Fx w l){i:Nat}(d:i<l.length):∃q,(∀a:St,a.h=h->AY 1 w (.int .i64 (i:Int)) a=some (q,a))/\AQ h q=some (.int .i64 ((l[i]:Nat):Int)):=by obtain⟨q,c,b⟩:=H.at_ i d;exact⟨q,c,b.zero (by simp[Fx])⟩
theorem uZ{it:BJ}{k c:Nat}{T:Aa}{g:Ac}{K:It->Prop}{F:List Nat}{N:List Bool}{av ov ss w:AV}(H:kT g F N)(HA:∀a:Aa,(∀p,p<c->AA a p=AA T p)->kr a av g F N ov ss){M:Ig}{L:List Place}{st:St}(C0:CF it c T M w L st)(W0:TQ g K M L)(hB:2*TM g M+L.length<=100000)(P:TS)(z0:P.get 0=av)(z4:P.get 4=.AL c 0)(U:P.get 5=.Cq (c+1))(z6:P.get 6=w) :
 (Dm (Bc E (Ab E (k+2)) C.f152L1) E.k P st).to fun x=>x.1=.exit 2/\x.2.1.get 4=.AL c 0/\x.2.1.get 5=.Cq (c+1)/\∃b Y,CF it c T b Y [] x.2.2/\TQ g K b []:=by
 refine Cy (fun (n:Nat) P st=>P.get 0=av/\P.get 4=.AL c 0/\P.get 5=.Cq (c+1)/\∃b Y L',P.get 6=Y/\CF it c T b Y L' st/\TQ g K b L'/\2*TM g b+L'.length=n/\n<=100000)
  (fun n=>n) ?_ _ (2*TM g M+L.length) _ _ ?_ ?_
 ·clear z0 z4 U z6 hB C0 W0;rintro n P ⟨h,o,lo⟩ ⟨z0,z4,U,b,Y,L',z6,C1,W,z,hn⟩;have hs:=H.Nf.small;have d7:lo=c:=C1.lo;subst d7;have h3:lo+3<=o:=C1.c3;have tp:CL h<=o:=C1.tp;have l:∀S:St,BZ .slice Y S=some (.int .i64 (L'.length:Int),S):=fun S=>C1.todo.BZ S;rcases List.eq_nil_or_concat L' with rfl|⟨f,p,hL⟩
  ·simp[C.f152L1,z4,U,z6,l];exact⟨b,⟨Y,C1⟩,W⟩
  ·rw[List.concat_eq_append]at hL;subst hL;have g1:0<(f++[p]).length:=by simp
   have b7:f.length<(f++[p]).length:=by simp
   obtain⟨id,cap,d8,hx⟩:=C1.todo.idx b7;have D:=Gq.cells (enc:=Bh) (fun _=>rfl) (d8▸C1.todo) b7;have c9:(f++[p])[f.length]=p:=by simp
   rw[c9]at D;have J:=D.all;simp only[Bh,FV,GY,Dz]at J;have a4:∀j,AY 2 Y (.int .i64 (f.length:Int)) ⟨h,j,lo⟩=some (.AL id (f.length*2),⟨h,j,lo⟩):=fun j=>hx _ rfl;obtain⟨h1,a,n1,s1,f2,t2,e9⟩:=Ih (c':=o+1) (ty:=212) (sz:=2) (n:=2) (v:=FR p) (cs:=Bh p) (zero:=[.int .i64 0,.int .i64 0]) tp (lo:=lo) (by omega) rfl rfl rfl rfl;have V:CF it lo T b Y (f++[p]) ⟨a,o+1,lo⟩:=C1.grow (by omega) t2 fun q hq=>e9 q (by omega);obtain⟨w2,e8,G2,f6⟩:=V.todo.pop (sz:=2) (fun _=>rfl) (by omega) b7;have e4:(f++[p]).take f.length=f:=by simp
   rw[e4]at G2;have C3:CF it lo T b w2 f ⟨a,o+1,lo⟩:=⟨rfl,V.c3,V.tp,V.CY,V.res,V.map,G2,fun q hq=>V.own q (by rw[←f6];exact hq),V.nP⟩;have y:DW 2 false true false [Y,.int .i64 (f.length:Int)] ⟨a,o+1,lo⟩=some (w2,⟨a,o+1,lo⟩):=e8 _ rfl;obtain⟨r,d⟩:=p;have hp:=W.val.place ((r,d),CR b (r,d)) (Oe W.val.nodup (W.keys (r,d) (by simp)));simp only at hp;obtain⟨a2,a5,hd⟩:=hp;have c8:∀q,q<lo->AA a q=AA T q:=V.CY;have A:=HA a c8;obtain⟨lw,eR,hR⟩:=UG (k:=k+1) (c:=o+1) (lo:=lo) A a2 a5;have a7:AQ a (.AL o 0)=some (.int .i64 r):=by rw[BB,f2];rfl
   have a3:AQ a (.AL o 1)=some (.int .i64 (d:Int)):=by rw[BB,f2];rfl
   have f8:Ak a (.AL o 0) 2=some [.int .i64 r,.int .i64 (d:Int)]:=by rw[Bv,f2];rfl
   have c6:(g.DR r).length=(g.Dk r).length:=by simp[Ac.DR]
   have a6:∀S:St,BZ .slice lw S=some (.int .i64 ((g.Dk r).length:Int),S):=fun S=>by have:=hR.rs.BZ S;rw[c6]at this;exact this
   obtain⟨cv,nv,fv,sv,i,d2,d6,e5,g2⟩:=A.out;have v0:=i.one 0 (by simp);have v1:=i.one 1 (by simp);have v2:=i.one 2 (by simp);simp only[NU,List.getElem_cons_succ]at v0 v1 v2;have g3:f.length<=100000:=by simp only[Bd,Fq]at z;omega
   have wl:IntKind.i64.wrap (((f.length:Int)+1)-1)=(f.length:Int):=by rw[wrap64 (by omega) (by omega)];omega
   have a9:IntKind.i64.wrap (f.length:Int)=(f.length:Int):=wrap64 (by omega) (by omega);simp only[FR]at s1;by_cases hend:d=(g.Dk r).length
   ·have W1:=W.skip fun B hB=>by rw[List.getElem?_eq_none (by simp only;omega)]at hB;cases hB
    have I:((d:Int)==((g.Dk r).length:Int))=true:=by simp[hend]
    simp[C.f152L1,z0,z4,U,z6,l,a9,a4,J,n1,s1,y,a7,eR,a3,a6,I,Wd];refine⟨_,?_,b,f,C3,W1,rfl,?_⟩;all_goals simp only[Bd,Fq]at z
    all_goals omega
   ·have c0:d<(g.Dk r).length:=by omega
    have e6:d<(g.DR r).length:=by omega
    obtain⟨B,a0⟩:∃B,B=(g.Dk r)[d]:=⟨_,rfl⟩;have O:B∈g.AB:=a0▸PX H.Nf a2 a5 (BH c0);have d4:(g.DR r)[d]=g.ix B:=by rw[a0];simp[Ac.DR]
    have I:((d:Int)==((g.Dk r).length:Int))=false:=by simp;omega
    obtain⟨q,a1,b1⟩:=hR.rs.rd e6;rw[d4]at b1;have b8:∀j,AY 1 lw (.int .i64 (d:Int)) ⟨a,j,lo⟩=some (q,⟨a,j,lo⟩):=fun j=>a1 _ rfl;have eK:Ab E (k+2) 56 [cv,.int .i64 ((g.ix B:Nat):Int)] ⟨a,o+1,lo⟩=.ret (.bool (decide (g.ix B<g.Ae.length)),⟨a,o+1,lo⟩):=TE (k:=k+1) d2 _;by_cases hkd:B∈g.Ae
    ·have W1:=W.skip fun X hX=>by rw[Bu c0,←a0]at hX;cases hX;exact H.Nf.ok.apart _ hkd
     have Z:g.ix B<g.Ae.length:=(dF H.Nf.ok O).2 hkd;simp[C.f152L1,z0,z4,U,z6,l,a9,a4,J,n1,s1,y,a7,eR,a3,a6,I,Ou,i.nil,i.fld,v0,b8,b1,eK,Z];refine⟨_,?_,b,f,C3,W1,rfl,?_⟩;all_goals simp only[Bd,Fq]at z
     all_goals omega
    ·have Z:¬g.ix B<g.Ae.length:=fun h=>hkd ((dF H.Nf.ok O).1 h);have b3:=ABQ H W.val (p:=(r,d)) (A:=B) a2 a5 (by rw[Bu c0,←a0]);obtain⟨w3,d5,R3⟩:=hR.from_ (d+1) (by omega);have b4:∀j,DW 1 true false false [lw,.int .i64 ((d:Int)+1)] ⟨a,j,lo⟩=some (w3,⟨a,j,lo⟩):=fun j=>by have:=d5 ⟨a,j,lo⟩ rfl;simpa using this
     have g7:(g.Dk r).length<=30:=by
      by_cases T:r=-1
      ·subst T;rw[Rp];simp
      ·obtain⟨n,rfl⟩:∃n:Nat,r=(n:Int):=⟨r.toNat,by omega⟩;have c4:n<g.AP.length:=by omega
       rw[Ox,List.getD,Bu c4];exact (hs.AP _ (BH c4)).right
     have b6:((g.DR r).drop (d+1)).length<1000000:=by rw[IV,c6];omega
     have eF:Ab E (k+2) 149 [fv,nv,w3] ⟨a,o+1,lo⟩=.ret (.tuple [.int .u64 (((fo F N ((g.DR r).drop (d+1))).1:Nat):Int),.bool (fo F N ((g.DR r).drop (d+1))).2],⟨a,o+1,lo⟩):=by
      refine WE (k:=k+1) (n:=g.AB.length) ?_ ?_ R3.AG5 (fun x hx=>?_) H.narrow b6
      ·have:=Rd.HV (h:=a) e5;rwa [H.fl]at this
      ·have:=Rd.Cj (h:=a) d6;rwa [H.nl]at this
      ·have:=NC hx;obtain⟨s,e2,rfl⟩:=BP.1 this;exact vU (PX H.Nf a2 a5 e2)
     obtain⟨nn,rv,f4,lr,f3,e7,_,_,_,_,d9,d3,c7⟩:=d2.out;subst e7;obtain⟨a8,e1,u⟩:=c7 (g.ix B) (vU O);have d1:∀S:St,AY 1 f4 (.int .i64 ((g.ix B:Nat):Int)) S=some (.CB a8.cells,S):=fun S=>by
      have hl:g.ix B<f3.length:=by rw[d3];exact vU O
      rw[d9.idx hl];rw[Bu hl,Ct]at e1;rw[e1]
     have b0:a8.cells=[a8]:=by rcases u.out with⟨rfl,_⟩|⟨t,rfl⟩<;>rfl
     have b5:∀S:St,BZ .slice a8 S=some (.int .i64 ((Px g g.AP.length (g.ix B)).length:Int),S):=fun S=>by have:=u.len (st:=S);simpa using this
     have lk:∀j,FT (.many [.int,.int]) (.int .u64 0) false (.Cq (lo+1)) (.agg [.int .i64 r,.int .i64 (d:Int)]) ⟨a,j,lo⟩=some (.int .u64 ((CR b (r,d):Nat):Int),⟨a,j,lo⟩):=fun j=>by have:=Sq (c:=j) (lo:=lo) (zero:=.int .u64 0) NM V.map (r,d);rw[Ui]at this;exact this
     have wd:IntKind.i64.wrap ((d:Int)+1)=(d:Int)+1:=wi d;have c2:=yM (N:=N) H.narrow ((g.DR r).drop (d+1));have e0:=Qs c2 (W.val.AFZ hs (r,d));have c5:∀n∈Px g g.AP.length (g.ix B),n<g.AP.length/\(g.AP.getD n default).left=B:=fun n f1=>by obtain⟨b9,f5⟩:=gq.1 f1;refine⟨b9,AC8 ?_ O f5⟩;rw[List.getD,Bu b9];exact Ac.Iu (BH b9)
     have b2:(Px g g.AP.length (g.ix B)).length<=1000:=by have:(Px g g.AP.length (g.ix B)).length<=(List.range g.AP.length).length:=List.length_filter_le _ _;rw[List.length_range]at this;have:=hs.many;omega
     have W1:=W.ADQ (R:=Px g g.AP.length (g.ix B)) b3.1 b3.2;have d0:∀x:KN×TS×St,(x.1=.exit 4/\x.2.1.get 0=av/\x.2.1.get 4=.AL lo 0/\x.2.1.get 5=.Cq (lo+1)/\∃M2 w4 L4,x.2.1.get 6=w4/\CF it lo T M2 w4 L4 x.2.2/\vI g K b (r,d) B (ZT g F N b (r,d)) (Px g g.AP.length (g.ix B)) (Px g g.AP.length (g.ix B)).length M2 L4/\2*TM g M2+L4.length<=2*TM g b+f.length) ->
      ∃n',n'<n/\x.2.1.get 0=av/\x.2.1.get 4=.AL lo 0/\x.2.1.get 5=.Cq (lo+1)/\∃M2 w4 L4,x.2.1.get 6=w4/\CF it lo T M2 w4 L4 x.2.2/\TQ g K M2 L4/\2*TM g M2+L4.length=n'/\n'<=100000:=by
      rintro x ⟨_,g0,g4,g5,M2,w4,L4,g6,C4,W4,f9⟩;simp only[Bd,Fq]at z;exact⟨_,by omega,g0,g4,g5,M2,w4,L4,g6,C4,W4.over fun m' c2 f0=>gq.2 ⟨c2,by rw[f0]⟩,rfl,by omega⟩
     cases hc:(fo F N ((g.DR r).drop (d+1))).2 with
     |true=>
      have Q:ZT g F N b (r,d)=(fo F N ((g.DR r).drop (d+1))).1 ||| CR b (r,d):=by unfold ZT;simp only;rw[hc];rfl
      simp[C.f152L1,z0,U,z6,l,a9,a4,J,n1,s1,y,a7,eR,a3,a6,I,Ou,i.nil,i.fld,v0,v1,v2,b8,b1,eK,Z,wd,b4,eF,hc,f8,lk,e0,d1,b0,b5];refine Am.M.BG (ax (F:=k+2) (av:=av) (m:=ZT g F N b (r,d)) hs c5 u b2 C3 W1 (by simp only[Bd,Fq]at z;omega) _ (by simp[z0]) (by simp[z4]) (by simp[U]) (by simp) (by simp[Q]) (by simp) (by simp) (by simp)) fun x hx=>?_;have hf:=d0 x hx;obtain⟨e,f7,e3⟩:=x;obtain⟨rfl,_⟩:=hx;simpa using hf
     |false=>
      have Q:ZT g F N b (r,d)=(fo F N ((g.DR r).drop (d+1))).1:=by unfold ZT;simp only;rw[hc];rfl
      simp[C.f152L1,z0,U,z6,l,a9,a4,J,n1,s1,y,a7,eR,a3,a6,I,Ou,i.nil,i.fld,v0,v1,v2,b8,b1,eK,Z,wd,b4,eF,hc,d1,b0,b5];refine Am.M.BG (ax (F:=k+2) (av:=av) (m:=ZT g F N b (r,d)) hs c5 u b2 C3 W1 (by simp only[Bd,Fq]at z;omega) _ (by simp[z0]) (by simp[z4]) (by simp[U]) (by simp) (by simp[Q]) (by simp) (by simp) (by simp)) fun x hx=>?_;have hf:=d0 x hx;obtain⟨e,f7,e3⟩:=x;obtain⟨rfl,_⟩:=hx;simpa using hf
 ·exact FX (by show 2*TM g M+L.length<1000000;omega)
 ·exact⟨z0,z4,U,M,w,L,z6,C0,W0,rfl,hB⟩
end Go.Am
namespace Go.Am
 attribute [local irreducible] bigK
open Go
theorem M.RN{α:Type}{Q:α->Prop}:∀{m:M α},m.all Q->∃a,m.leftmost=some a/\Q a
 |.ret a,h=>⟨a,rfl,h⟩
 |.fail,h=>h.elim
 |.ask n k,h=>M.RN (m:=k 0) (h 0 (CZ _))
theorem M.kH{α:Type}{f:α->Bool}:∀{m:M α},(m.all fun a=>f a=true)->m.ZW f=true
 |.ret a,h=>h
 |.fail,h=>h.elim
 |.ask n k,h=>by show (List.range (n+1)).all _=true;rw[Fj];intro i b;exact M.kH (h i (by have:=Gd.1 b;omega))
theorem wG{m:M (AV×St)}{v:AV}{c:St}(h:m.all fun r=>r.1=v):Jj c m=.ret (v,c):=by obtain⟨a,f,b⟩:=M.RN h;have g:m.ZW (fun d=>AV.beq a.1 d.1)=true:=M.kH (M.GU h fun r e=>by rw[b,e];exact AV.DU v);unfold Jj;rw[f];simp only[g,Ba];rw[b]
theorem wH{m:M (AV×St)}{d:St}{α:Type}{P:α->Prop}{f:α->AV}(one:∀a b,P a->P b->a=b)(h:m.all fun r=>∃a,P a/\r.1=f a):∃a,P a/\Jj d m=.ret (f a,d):=by obtain⟨r,_,a,c,_⟩:=M.RN h;refine⟨a,c,wG (M.GU h fun i ⟨b,g,e⟩=>?_)⟩;rw[one a b c g];exact e
theorem QD{κ β:Type}[DecidableEq κ]{k:κ}{v:β}:∀{M:List (κ×β)},k∉M.map (·.1)->Iw M k v=M++[(k,v)]
 |[],_=>rfl
 |(a,w)::M,h=>by simp only[Dh,BK,not_or]at h;unfold Iw;rw[AJ h.1,QD h.2];rfl
def Ga(K:Ig)(seen:List Nat):Ig:=seen.map fun b=>K.getD b ((0,0),0)
theorem Rn{K:Ig}{seen:List Nat}{b:Nat}(a:b<K.length):Ga K (seen++[b])=Ga K seen++[K[b]]:=by simp[Ga,List.getD,a]
theorem Yg{K:Ig}{seen:List Nat}(d:∀b∈seen,b<K.length){x:Place×Nat}:x∈Ga K seen↔∃b,∃h:b<K.length,b∈seen/\K[b]=x:=by
 unfold Ga;rw[BP];constructor
 ·rintro⟨b,a,c⟩;refine⟨b,d b a,a,?_⟩;rw[←c];simp[List.getD,d b a]
 ·rintro⟨b,h,a,c⟩;exact⟨b,a,by rw[←c];simp[List.getD,h]⟩
theorem key_inj{K:Ig}(g:(K.map (·.1)).Nodup){a b:Nat}(f:a<K.length)(d:b<K.length)(e:K[a].1=K[b].1):a=b:=by
 have c:(K.map (·.1))[a]'(by simpa using f)=(K.map (·.1))[b]'(by simpa using d):=by simpa using e
 exact (List.getElem_inj g).1 c
theorem YL{K:Ig}(l:(K.map (·.1)).Nodup){seen:List Nat}(k:∀b∈seen,b<K.length){b:Nat}(j:b<K.length)(h:b∉seen):K[b].1∉(Ga K seen).map (·.1):=by intro c;obtain⟨x,g,e⟩:=BP.1 c;obtain⟨a,d,i,f⟩:=(Yg k).1 g;subst f;have:=key_inj l d j e;subst this;exact h i
theorem Qf{K:Ig}(g:(K.map (·.1)).Nodup):∀{seen:List Nat},seen.Nodup->(∀b∈seen,b<K.length)->((Ga K seen).map (·.1)).Nodup
 |[],_,_=>by simp[Ga]
 |b::seen,f,c=>by
  rw[Js]at f;have e:Ga K (b::seen)=K[b]'(c b (by simp))::Ga K seen:=by simp[Ga,List.getD,c b (by simp)]
  rw[e,Dh,Js];exact⟨YL g (fun a d=>c a (by simp[d])) _ f.1,Qf g f.2 fun a d=>c a (by simp[d])⟩
theorem Tm{K:Ig}{seen:List Nat}(c:∀b∈seen,b<K.length)(h:∀b,b<K.length->b∈seen)(x:Place×Nat):x∈Ga K seen↔x∈K:=by
 rw[Yg c];constructor
 ·rintro⟨b,a,_,rfl⟩;exact BH a
 ·intro d;obtain⟨b,a,e⟩:=Du d;exact⟨b,a,h b a,e⟩
theorem OE:∀(n:Nat) (l:List Nat),l.Nodup->(∀b∈l,b<n)->l.length<=n:=by
 intro n;induction n with
 |zero=>
  intro l _ h;cases l with
  |nil=>exact Ao _
  |cons a l=>have:=h a (by simp);omega
 |succ n g=>
  intro l c h;have f:=g (l.erase n) (c.erase n) fun b d=>by
   have i:=h b (List.mem_of_mem_erase d);have j:b≠n:=fun e=>by subst e;exact List.Nodup.not_mem_erase c d
   omega
  have:=List.length_erase (a:=n) (l:=l);rw[this]at f;split at f<;>omega
theorem Qo{l:List Nat}{b:Nat}(h:l.Nodup)(c:b∉l):(l++[b]).Nodup:=by rw[Mx];exact⟨h,by simp,fun x d y a e=>by simp only[Di]at a;subst a;subst e;exact c d⟩
theorem CF.iter{b it':BJ}{c f:Nat}{d h:Aa}{M:Ig}{w:AV}{L:List Place}(H:CF b c d M w L ⟨h,f,c⟩):CF it' c d M w L ⟨Ah h (c+2) it',f,c⟩:=by have g:AA h (c+2)=some b:=H.nP;refine⟨rfl,H.c3,by show CL (Ah _ _ _)<=_;rw[Cg];exact H.tp,fun p a=>(Bn (by omega)).trans (H.CY p a),(Bn (by omega)).trans H.res,(Bn (by omega)).trans H.map,H.todo.heap fun p a=>Bn fun e=>?_,H.own,by show AA (Ah _ _ _) _=_;rw[Fy rfl,g];rfl⟩;have:=H.own p a;omega
theorem uf{F c m:Nat}{o:Aa}{K:Ig}{av:AV}(hn:(K.map (·.1)).Nodup)(a4:K.length<=1000)(hm:m<c)(hK:AA o m=some (Gj FR JQ K)){l:St}(C0:CF (.iter (some m) K.length [] K.length) c o [] .AO [] l)(d:TS)(t:d.get 0=av)(s:d.get 4=.AL c 0)(z:d.get 5=.Cq (c+1))(I:d.get 6=.AO)(f:d.get 22=.AL (c+2) 0) :
 (Dm (Bc E (Ab E F) C.f152L0) E.k d l).all fun x=>x.1=.exit 0/\x.2.1.get 0=av/\x.2.1.get 4=.AL c 0/\x.2.1.get 5=.Cq (c+1)/\∃it' M w,x.2.1.get 6=w/\CF it' c o M w (M.map (·.1)) x.2.2/\(M.map (·.1)).Nodup/\∀y,y∈M↔y∈K:=by
 refine bF (fun (seen:List Nat) d l=>seen.Nodup/\(∀b∈seen,b<K.length)/\Has d [(0,av),(4,.AL c 0),(5,.Cq (c+1)),(22,.AL (c+2) 0)]/\∃w,d.get 6=w/\CF (.iter (some m) K.length seen K.length) c o (Ga K seen) w ((Ga K seen).map (·.1)) l)
  (fun seen=>K.length-seen.length) (fun e d l=>e=.exit 0/\d.get 0=av/\d.get 4=.AL c 0/\d.get 5=.Cq (c+1)/\∃it' M w,d.get 6=w/\CF it' c o M w (M.map (·.1)) l/\(M.map (·.1)).Nodup/\∀y,y∈M↔y∈K) ?_ _ [] _ _ ?_ ?_
 ·clear t s z I f C0;rintro seen d ⟨h,g,lo⟩ ⟨P,B,H,w,I,r⟩;simp only[Be,CG,BX]at H;obtain⟨t,s,z,f⟩:=H;have T:lo=c:=r.lo;subst T;have h3:lo+3<=g:=r.c3;have a3:seen.length<=K.length:=OE _ _ P B;have W:AA h m=some (Gj FR JQ K):=(r.CY m hm).trans hK;have hi:AA h (lo+2)=some (.iter (some m) K.length seen K.length):=r.nP;simp only[C.f152L0,TI,VP,yu,kC,vX,aF,qL,qM,f,M.bind_assoc,M.JZ,IK];rw[M.Jo];refine qG (by omega) W hi ?_ ?_
  ·intro D;simp[t,s,z,I];exact⟨_,_,r,Qf hn P B,fun a b m'=>Tm B D _⟩
  ·intro b J j;have A:=r.iter (it':=.iter (some m) K.length (seen++[b]) K.length);obtain⟨p,R⟩:∃p,p=Ah h (lo+2) (.iter (some m) K.length (seen++[b]) K.length):=⟨_,rfl⟩;rw[←R]at A⊢;have a1:CL p<=g:=A.tp;have a2:AA p m=some (Gj FR JQ K):=(A.CY m hm).trans hK;have en:=fun L=>xn (c:=L) (lo:=lo) a2 A.nP J;obtain⟨h2,O,n1,s1,f2,t2,Y⟩:=Ih (c':=g+1) (ty:=212) (sz:=2) (n:=2) (v:=FR K[b].1) (cs:=Bh K[b].1) (zero:=[.int .i64 0,.int .i64 0]) a1 (lo:=lo) (by omega) rfl rfl rfl rfl;have C3:CF (.iter (some m) K.length (seen++[b]) K.length) lo o (Ga K seen) w ((Ga K seen).map (·.1)) ⟨O,g+1,lo⟩:=A.grow (by omega) t2 fun q hq=>Y q (by omega);have r4:Ak O (.AL g 0) 2=some (Bh K[b].1):=by rw[Bv,f2];rfl
   have up:=Ym (c:=g+1) (lo:=lo) (ev:=JQ) NM C3.map (by omega) K[b].1 K[b].2;have C4:=C3.put (Iw (Ga K seen) K[b].1 K[b].2);obtain⟨N,u⟩:∃N,N=Ah O (lo+1) (Gj FR JQ (Iw (Ga K seen) K[b].1 K[b].2)):=⟨_,rfl⟩;rw[←u]at C4 up;have r5:Ak N (.AL g 0) 2=some (Bh K[b].1):=by rw[Bv,u,Bn (by omega),f2];rfl
   have Z:(Ga K seen).length=seen.length:=by simp[Ga]
   obtain⟨p1,h7,w8,h8,p2,p3,C5⟩:=C4.push K[b].1 (by rw[Fz,Z];omega);have Q:Iw (Ga K seen) K[b].1 K[b].2=Ga K (seen++[b]):=by rw[QD (YL hn B J j),Rn J]
   have a0:(Ga K seen).map (·.1)++[K[b].1]=(Ga K (seen++[b])).map (·.1):=by rw[Rn J];simp
   rw[Q,a0]at C5;have pl:FR K[b].1=.agg (Bh K[b].1):=rfl;rw[pl]at p1 s1 up;have S:FL (.many [.int,.int]) (.Cq (lo+1)) (.agg (Bh K[b].1)) (JQ K[b].2) ⟨O,g+1,lo⟩=some (.undef,⟨N,g+1,lo⟩):=up;have U:∀L,NH (.AL (lo+2) 0) ⟨p,L,lo⟩=some (.tuple [.agg (Bh K[b].1),JQ K[b].2],⟨p,L,lo⟩):=en;simp[t,s,z,I,f,U,n1,s1,r4,S,r5,p1,p2,p3];have i:∀a∈seen++[b],a<K.length:=fun a ha=>by
    rcases Ca.1 ha with h|h
    ·exact B a h
    ·simp at h;omega
   have V:=OE _ _ (Qo P j) i;rw[Bd,Fq]at V;exact⟨seen++[b],by rw[Bd,Fq];omega,Qo P j,i,C5⟩
 ·exact FX (by show K.length-0<1000000;omega)
 ·exact⟨List.nodup_nil,by simp,by simp[t,s,z,f],.AO,I,C0⟩
end Go.Am
