/- A part of tablesStay. -/
import Derived.Test.YthnghmpbgomacaaGreatDoorW8
import Derived.Test.YthnghmpbgomacaaGreatDoorT1
set_option linter.unusedSectionVars false
namespace Go.Am
open Go
structure It where
 FJ:Int
 dot:Nat
 ahead:Bz
 deriving DecidableEq
def Ac.Dk(g:Ac)(n:Int):List Bz:=if n<0 then [g.Ai] else (g.AP.getD n.toNat default).right
inductive vN (g:Ac) (K:It->Prop):It->Prop
 |base {x:It} (h:K x):vN g K x
 |step {r:Int} {d n:Nat} {a b A:Bz} (h:vN g K ⟨r,d,a⟩) (hA:(g.Dk r)[d]? =some A) (hn:n<g.AP.length) (hl:(g.AP.getD n default).left=A)
  (hb:XV g b ((g.Dk r).drop (d+1))∨((∀y∈(g.Dk r).drop (d+1),VT g y)/\b=a)):vN g K ⟨n,0,b⟩
def Zn(x y:It):Prop:=x.FJ<y.FJ∨(x.FJ=y.FJ/\(x.dot<y.dot∨(x.dot=y.dot/\x.ahead<y.ahead)))
theorem xR(x:It):¬Zn x x:=by
 rintro (h|⟨_,h|⟨_,h⟩⟩)
 ·omega
 ·omega
 ·exact (List.lt_irrefl _) h
theorem nC{x y z:It}(h:Zn x y)(k:Zn y z):Zn x z:=by
 rcases h with h|⟨f,h|⟨e,b⟩⟩<;>rcases k with k|⟨c,k|⟨d,a⟩⟩
 ·exact .inl (by omega)
 ·exact .inl (by omega)
 ·exact .inl (by omega)
 ·exact .inl (by omega)
 ·exact .inr ⟨by omega,.inl (by omega)⟩
 ·exact .inr ⟨by omega,.inl (by omega)⟩
 ·exact .inl (by omega)
 ·exact .inr ⟨by omega,.inl (by omega)⟩
 ·exact .inr ⟨by omega,.inr ⟨by omega,Nr b a⟩⟩
theorem YO{α:Type}{lt:α->α->Prop}(a:∀x,¬lt x x)(i:∀x y z,lt x y->lt y z->lt x z):∀{l m:List α},l.Pairwise lt->m.Pairwise lt->(∀x,x∈l↔x∈m)->l=m
 |[],[],_,_,_=>rfl
 |[],y::m,_,_,h=>by have:=(h y).2 (by simp);cases this
 |x::l,[],_,_,h=>by have:=(h x).1 (by simp);cases this
 |x::l,y::m,c,d,h=>by
  rw[Hg]at c d;have f:x=y:=by
   rcases BK.1 ((h x).1 (by simp))with e|e
   ·exact e
   ·rcases BK.1 ((h y).2 (by simp))with g|g
    ·exact g.symm
    ·exact absurd (i _ _ _ (c.1 y g) (d.1 x e)) (a x)
  subst f;rw[YO a i c.2 d.2 fun z=>?_];constructor
  ·intro b;rcases BK.1 ((h z).1 (Cu _ b))with e|e
   ·subst e;exact absurd (c.1 z b) (a z)
   ·exact e
  ·intro b;rcases BK.1 ((h z).2 (Cu _ b))with e|e
   ·subst e;exact absurd (d.1 z b) (a z)
   ·exact e
def InG(g:Ac)(x:It):Prop:=-1<=x.FJ/\x.FJ<g.AP.length/\x.dot<=(g.Dk x.FJ).length/\(x.ahead=[]∨x.ahead∈g.Ae)
end Go.Am
namespace Go.Am
open Go
open Classical in
 noncomputable def ltB(x y:It):Bool:=decide (Zn x y)
theorem iA{x y:It}(c:¬Zn x y)(b:¬Zn y x):x=y:=by
 obtain⟨r,d,a⟩:=x;obtain⟨f,i,g⟩:=y;unfold Zn at c b;simp only at c b;have l:r=f:=by
  rcases Int.lt_trichotomy r f with h|h|h
  ·exact absurd (.inl h) c
  ·exact h
  ·exact absurd (.inl h) b
 subst l;have j:d=i:=by
  rcases Nat.lt_trichotomy d i with h|h|h
  ·exact absurd (.inr ⟨rfl,.inl h⟩) c
  ·exact h
  ·exact absurd (.inr ⟨rfl,.inl h⟩) b
 subst j;have k:a=g:=Decidable.byContradiction fun e=>by
  by_cases h:a<g
  ·exact c (.inr ⟨rfl,.inr ⟨rfl,h⟩⟩)
  ·exact b (.inr ⟨rfl,.inr ⟨rfl,Md h e⟩⟩)
 subst k;rfl
theorem nD:MR ltB:=by
 refine⟨fun x=>?_,fun x y z b a=>?_,fun x y b a=>?_⟩
 ·simp[ltB,xR]
 ·simp only[ltB,Aw]at b a ⊢;exact nC b a
 ·simp only[ltB,Ji]at b a;exact iA b a
def Ac.items(g:Ac):List It:=((-1:Int)::(List.range g.AP.length).map fun (n:Nat)=>(n:Int)).flatMap fun n=>(List.range ((g.Dk n).length+1)).flatMap fun d=>([]::g.Ae).map fun a=>⟨n,d,a⟩
theorem uA{g:Ac}{x:It}(h:InG g x):x∈g.items:=by
 obtain⟨b,d,c,a⟩:=h;refine Ka.2 ⟨x.FJ,?_,Ka.2 ⟨x.dot,Gd.2 (by omega),BP.2 ⟨x.ahead,?_,rfl⟩⟩⟩
 ·by_cases h0:x.FJ=-1
  ·rw[h0];simp
  ·refine Cu _ (BP.2 ⟨x.FJ.toNat,Gd.2 (by omega),by omega⟩)
 ·rcases a with a|a
  ·rw[a];simp
  ·exact Cu _ a
theorem AAF{l:List It}(f:l.Nodup)(h:l.Pairwise fun a b=>ltB b a=false):l.Pairwise Zn:=by have:=List.Pairwise.and f h;refine this.imp fun {a b} ⟨d,c⟩=>?_;simp only[ltB,Ji]at c;exact Qb fun e=>d (iA e c)
theorem qB{α:Type}:∀l:List α,∃m:List α,m.Nodup/\∀x,x∈m↔x∈l
 |[]=>⟨[],List.nodup_nil,fun _=>Iff.rfl⟩
 |a::l=>by
  obtain⟨m,d,b⟩:=qB l;by_cases h:a∈m
  ·refine⟨m,d,fun x=>⟨fun c=>Cu _ ((b x).1 c),fun c=>?_⟩⟩;rcases BK.1 c with e|e
   ·subst e;exact h
   ·exact (b x).2 e
  ·refine⟨a::m,Js.2 ⟨h,d⟩,fun x=>?_⟩;rw[BK,BK,b]
open Classical in
theorem listed{g:Ac}{S:It->Prop}(b:∀x,S x->InG g x):∃l:List It,l.Pairwise Zn/\∀x,x∈l↔S x:=by obtain⟨m,c,a⟩:=qB (g.items.filter fun x=>decide (S x));refine⟨Hl ltB m,AAF ((Ip ltB _).nodup_iff.2 c) (UU nD _),fun x=>?_⟩;rw[(Ip ltB _).mem_iff,a,Mw];simp only[Aw];exact⟨fun h=>h.2,fun h=>⟨uA (b x h),h⟩⟩
end Go.Am
namespace Go.Am
open Go
def Lets(g:Ac)(m:Nat)(a:Bz):Prop:=(a=[]/\m.testBit 60=true)∨∃j,g.Ae[j]? =some a/\m.testBit j=true
theorem aU{g:Ac}{a:Bz}:¬Lets g 0 a:=by rintro (⟨_,h⟩|⟨j,_,h⟩)<;>simp at h
theorem Xc{g:Ac}{m k:Nat}{a:Bz}:Lets g (m ||| k) a↔Lets g m a∨Lets g k a:=by
 constructor
 ·rintro (⟨c,b⟩|⟨j,c,b⟩)
  ·rw[Hw,FO]at b;rcases b with b|b
   ·exact .inl (.inl ⟨c,b⟩)
   ·exact .inr (.inl ⟨c,b⟩)
  ·rw[Hw,FO]at b;rcases b with b|b
   ·exact .inl (.inr ⟨j,c,b⟩)
   ·exact .inr (.inr ⟨j,c,b⟩)
 ·rintro ((⟨c,b⟩|⟨j,c,b⟩)|(⟨c,b⟩|⟨j,c,b⟩))
  ·exact .inl ⟨c,by rw[Hw,b];rfl⟩
  ·exact .inr ⟨j,c,by rw[Hw,b];rfl⟩
  ·exact .inl ⟨c,by rw[Hw,b];simp⟩
  ·exact .inr ⟨j,c,by rw[Hw,b];simp⟩
def JO(g:Ac)(M:Place->Nat)(x:It):Prop:=Lets g (M (x.FJ,x.dot)) x.ahead
structure zX (g:Ac)(M:Place->Nat)(p:Place)(A:Bz)(m:Nat):Prop where
 at_:(g.Dk p.1)[p.2]? =some A
 all:∀b,Lets g m b↔XV g b ((g.Dk p.1).drop (p.2+1))∨((∀y∈(g.Dk p.1).drop (p.2+1),VT g y)/\Lets g (M p) b)
def Wl(g:Ac)(M:Place->Nat)(p:Place):Prop:=
 ∀A,(g.Dk p.1)[p.2]? =some A->∀(n:Nat),n<g.AP.length->(g.AP.getD n default).left=A->∀a b,Lets g (M p) a ->
  (XV g b ((g.Dk p.1).drop (p.2+1))∨((∀y∈(g.Dk p.1).drop (p.2+1),VT g y)/\b=a))->Lets g (M ((n:Int),0)) b
theorem uW{g:Ac}{K:It->Prop}{M:Place->Nat}(e:∀x,JO g M x->vN g K x)(a:∀x,K x->JO g M x)(f:∀p,Wl g M p)(x:It):JO g M x↔vN g K x:=by
 refine⟨e x,fun h=>?_⟩;induction h with
 |base h=>exact a _ h
 |step h i j b d c=>exact f (_,_) _ i _ j b _ _ c d
def WH(M:Place->Nat)(q:Place)(m:Nat):Place->Nat:=fun p=>if p=q then M q ||| m else M p
theorem nQ{g:Ac}{M:Place->Nat}{q:Place}{m:Nat}{x:It}:JO g (WH M q m) x↔JO g M x∨((x.FJ,x.dot)=q/\Lets g m x.ahead):=by
 unfold JO WH;split
 ·rename_i h;rw[Xc,h];simp
 ·rename_i h;simp[h]
theorem nY{g:Ac}{K:It->Prop}{M j:Place->Nat}{p:Place}{A:Bz}{m n:Nat}(i:∀x,JO g M x->vN g K x)(k:zX g j p A m)(o:∀b,Lets g (j p) b->Lets g (M p) b)(c:∃a,Lets g (j p) a)(q:n<g.AP.length)(l:(g.AP.getD n default).left=A){x:It}(u:JO g (WH M ((n:Int),0) m) x):vN g K x:=by
 rcases nQ.1 u with h|⟨h,s⟩
 ·exact i x h
 ·obtain⟨r,d,a⟩:=x;simp only[JL]at h;obtain⟨rfl,rfl⟩:=h;simp only at s;obtain⟨v,e⟩:=c;rcases (k.all a).1 s with f|⟨f,t⟩
  ·exact .step (i ⟨p.1,p.2,v⟩ (o _ e)) k.at_ q l (.inl f)
  ·exact .step (i ⟨p.1,p.2,a⟩ (o _ t)) k.at_ q l (.inr ⟨f,rfl⟩)
theorem yG{g:Ac}{M i:Place->Nat}{p:Place}{A:Bz}{m:Nat}(j:zX g i p A m)(c:M p=i p)(h:∀(n:Nat),n<g.AP.length->(g.AP.getD n default).left=A->∀b,Lets g m b->Lets g (M ((n:Int),0)) b):Wl g M p:=by
 intro q d n l k a b e f;rw[j.at_]at d;cases d;refine h n l k b ((j.all b).2 ?_);rcases f with f|⟨o,rfl⟩
 ·exact .inl f
 ·exact .inr ⟨o,by rw[←c];exact e⟩
theorem nW{g:Ac}{M e:Place->Nat}{p:Place}(h:Wl g M p)(c:e p=M p)(k:∀q b,Lets g (M q) b->Lets g (e q) b):Wl g e p:=by intro A l n j f a b d i;rw[c]at d;exact k _ _ (h A l n j f a b d i)
structure UJ {κ:Type}[DecidableEq κ](kk:KK)(enc:κ->AV):Prop where
 is_:∀k,Nj kk (enc k)=true
 eq_:∀x y,tu kk (enc x) (enc y)=some (decide (x=y))
theorem AFx(a b:Int):je .int (.int .i64 a) (.int .i64 b)=some (a==b):=rfl
theorem YA:UJ (.one .str) AV.str:=⟨fun _=>rfl,fun x y=>by
 refine (show tu (.one .str) (.str x) (.str y)=some (x==y) from rfl).trans ?_
 by_cases h:x=y<;>simp[h]⟩
def FR(p:Place):AV:=.agg [.int .i64 p.1,.int .i64 (p.2:Int)]
theorem ADK(a b d c:Int):SS [.int,.int] [.int .i64 a,.int .i64 b] [.int .i64 d,.int .i64 c]=some (a==d&&b==c):=by simp only[SS,AFx];cases a==d<;>cases b==c<;>rfl
theorem NM:UJ (.many [.int,.int]) FR:=⟨fun _=>rfl,fun x y=>by
 obtain⟨a,b⟩:=x
 obtain⟨d,c⟩:=y
 show SS _ _ _=_
 rw[ADK]
 by_cases h1:a=d<;>by_cases h2:b=c<;>simp[h1,h2,Int.ofNat_inj]⟩
section
variable {κ:Type}[DecidableEq κ]{β:Type}{kk:KK}{enc:κ->AV}{ev:β->AV}
def Gj(enc:κ->AV)(ev:β->AV)(M:List (κ×β)):BJ:=.map (M.map fun p=>enc p.1) (M.map fun p=>ev p.2) (List.range M.length) M.length
def IE:List (κ×β)->κ->Option β
 |[],_=>none
 |(a,w)::M,k=>if k=a then some w else IE M k
def Tz:List (κ×β)->κ->Option Nat
 |[],_=>none
 |(a,w)::M,k=>if k=a then some 0 else (Tz M k).map (·+1)
def Iw:List (κ×β)->κ->β->List (κ×β)
 |[],k,v=>[(k,v)]
 |(a,w)::M,k,v=>if k=a then (a,v)::M else (a,w)::Iw M k v
theorem QH(K:UJ kk enc)(k:κ):∀M:List (κ×β),Ii kk (M.map fun p=>enc p.1) (enc k)=some (Tz M k)
 |[]=>rfl
 |(a,w)::M=>by
  have b:=QH K k M;rw[Dh];unfold Ii Tz;rw[K.eq_];by_cases h:k=a
  ·simp[h]
  ·simp only[h,Lb,Dn,b];cases Tz M k<;>rfl
theorem Mk{k:κ}:∀{M:List (κ×β)},Tz M k=none->IE M k=none/\∀v,Iw M k v=M++[(k,v)]
 |[],_=>⟨rfl,fun _=>rfl⟩
 |(a,w)::M,h=>by
  unfold Tz at h;split at h
  ·cases h
  ·rename_i b;have d:Tz M k=none:=by cases c:Tz M k<;>simp_all
   obtain⟨e,c⟩:=Mk d;refine⟨by unfold IE;rw[AJ b,e],fun v=>?_⟩;unfold Iw;rw[AJ b,c];rfl
theorem QF{k:κ}:∀{M:List (κ×β)} {i:Nat},Tz M k=some i->∃h:i<M.length,M[i].1=k/\IE M k=some M[i].2/\∀v,Iw M k v=M.set i (k,v)
 |[],_,h=>by cases h
 |(a,w)::M,i,h=>by
  unfold Tz at h;split at h
  ·rename_i e;cases h;subst e;exact⟨by simp,rfl,by simp[IE],fun v=>by simp[Iw]⟩
  ·rename_i b;cases h2:Tz M k with
   |none=>rw[h2]at h;cases h
   |some j=>rw[h2]at h;cases h;obtain⟨g,d,f,c⟩:=QF h2;refine⟨by simp;omega,by simpa using d,by unfold IE;rw[AJ b,f];simp,fun v=>by unfold Iw;rw[AJ b,c];simp⟩
theorem Ry{k k':κ}{v:β}:∀{M:List (κ×β)},IE (Iw M k v) k'=if k'=k then some v else IE M k'
 |[]=>by simp[Iw,IE]
 |(a,w)::M=>by
  have b:=Ry (k:=k) (k':=k') (v:=v) (M:=M);unfold Iw;by_cases h:k=a
  ·subst h;rw[AX rfl];unfold IE;split<;>rfl
  ·rw[AJ h];unfold IE;rw[b];by_cases h2:k'=a
   ·have:k'≠k:=fun e=>h (e▸h2);rw[AX h2,AX h2,AJ this]
   ·rw[AJ h2,AJ h2]
theorem Vv{k:κ}{v:β}:∀{M:List (κ×β)},(Iw M k v).map (·.1)=if k∈M.map (·.1) then M.map (·.1) else M.map (·.1)++[k]
 |[]=>by simp[Iw]
 |(a,w)::M=>by
  have b:=Vv (k:=k) (v:=v) (M:=M);unfold Iw;by_cases h:k=a
  ·subst h;simp
  ·rw[AJ h,Dh,b];simp only[Dh,BK,h,false_or];split<;>rfl
theorem Vn{k:κ}{v:β}{M:List (κ×β)}(h:(M.map (·.1)).Nodup):((Iw M k v).map (·.1)).Nodup:=by
 rw[Vv];split
 ·exact h
 ·rename_i d;rw[Mx];exact⟨h,by simp,fun a f b c e=>by simp only[Di]at c;subst c;subst e;exact d f⟩
theorem Rz{k:κ}{v:β}:∀{M:List (κ×β)},(M.map (·.1)).Nodup->(IE M k=some v↔(k,v)∈M)
 |[],_=>by simp[IE]
 |(a,w)::M,h=>by
  rw[Dh,Js]at h;have c:=Rz (k:=k) (v:=v) h.2;unfold IE;by_cases e:k=a
  ·subst e;rw[AX rfl,BK];constructor
   ·intro b;cases b;exact .inl rfl
   ·rintro (b|b)
    ·cases b;rfl
    ·exact absurd (BP.2 ⟨(k,v),b,rfl⟩) h.1
  ·rw[AJ e,BK,c];constructor
   ·exact .inr
   ·rintro (b|b)
    ·cases b;exact absurd rfl e
    ·exact b
theorem QG{k:κ}:∀{M:List (κ×β)},IE M k=none↔k∉M.map (·.1)
 |[]=>by simp[IE]
 |(a,w)::M=>by
  have b:=QG (k:=k) (M:=M);unfold IE;by_cases e:k=a
  ·simp[e]
  ·rw[AJ e,b];simp[e]
variable {h:Aa}{m c lo:Nat}{M:List (κ×β)}
theorem Sq(K:UJ kk enc)(H:AA h m=some (Gj enc ev M))(k:κ){zero:AV}:FT kk zero false (.Cq m) (enc k) ⟨h,c,lo⟩=some (((IE M k).map ev).getD zero,⟨h,c,lo⟩):=by
 unfold Gj at H;simp only[FT,H,LA,K.is_,Ba,QH K];cases hi:Tz M k with
 |none=>rw[(Mk hi).1];rfl
 |some i=>obtain⟨a,d,b,_⟩:=QF hi;simp[b,a,MJ]
theorem iP(K:UJ kk enc)(H:AA h m=some (Gj enc ev M))(k:κ){zero:AV}:FT kk zero true (.Cq m) (enc k) ⟨h,c,lo⟩=some (.tuple [((IE M k).map ev).getD zero,.bool (IE M k).isSome],⟨h,c,lo⟩):=by
 unfold Gj at H;simp only[FT,H,LA,K.is_,Ba,QH K];cases hi:Tz M k with
 |none=>rw[(Mk hi).1];rfl
 |some i=>obtain⟨a,d,b,_⟩:=QF hi;simp[b,a,MJ]
theorem xk{i:Nat}{k:κ}{v:β}(b:∃h:i<M.length,M[i].1=k):Gj enc ev (M.set i (k,v))=.map (M.map fun p=>enc p.1) ((M.map fun p=>ev p.2).set i (ev v)) (List.range M.length) M.length:=by
 obtain⟨a,c⟩:=b;unfold Gj;rw[IU,GX,GX];congr 1;simp only;rw[←c];have:(M.map fun p=>enc p.1)[i]'(by simpa using a)=enc M[i].1:=by simp
 rw[←this,List.set_getElem_self]
theorem Ym(K:UJ kk enc)(H:AA h m=some (Gj enc ev M))(a:lo<=m)(k:κ)(v:β):FL kk (.Cq m) (enc k) (ev v) ⟨h,c,lo⟩=some (.undef,⟨Ah h m (Gj enc ev (Iw M k v)),c,lo⟩):=by
 have f:Nat.blt m lo=false:=by rw[blt_eq];simp;omega
 unfold Gj at H;simp only[FL,f,K.is_,H,Lf,OH,Bj,QH K];cases hi:Tz M k with
 |none=>rw[(Mk hi).2 v];simp[Gj,Lh]
 |some i=>obtain⟨e,b,_,d⟩:=QF hi;rw[d,xk ⟨e,b⟩]
theorem VH{n b:Nat}(f:b<n):Mt (List.range n) b=some b:=by
 have key:∀(m s b:Nat),s<=b->b<s+m->Mt (List.range' s m) b=some (b-s):=by
  intro m;induction m with
  |zero=>intro s b d c;omega
  |succ m a=>
   intro s b d c;rw[List.range'_succ,Mt];by_cases e:s=b
   ·subst e;simp
   ·rw[a (s+1) b (by omega) (by omega)];simp[beq_eq,e];omega
 have:=key n 0 b (CZ _) (by omega);rwa [←List.range_eq_range']at this
theorem iQ(K:UJ kk enc)(H:AA h m=some (Gj enc ev M))(r:lo<=m)(k:κ)(z:β) :
 ∃(b:Nat) (a:Aa),Ir kk (ev z) (.Cq m) (enc k) ⟨h,c,lo⟩=some (.tuple [ev ((IE M k).getD z),.int .i64 (b:Int)],⟨a,c,lo⟩)/\FT kk (ev z) false (.Cq m) (enc k) ⟨a,c,lo⟩=some (ev ((IE M k).getD z),⟨a,c,lo⟩) /\
  ∀v,Ha (.Cq m) (.int .i64 (b:Int)) (ev v) ⟨a,c,lo⟩=some (.undef,⟨Ah h m (Gj enc ev (Iw M k v)),c,lo⟩):=by
 have f:Nat.blt m lo=false:=by rw[blt_eq];simp;omega
 have n:=H;unfold Gj at H;cases hi:Tz M k with
 |none=>
  obtain⟨j,_⟩:=Mk hi;obtain⟨a,d⟩:∃a,a=Ah h m (Gj enc ev (M++[(k,z)])):=⟨_,rfl⟩;have g:AA a m=some (Gj enc ev (M++[(k,z)])):=by rw[d,Fy rfl,n];rfl
  have e:=Sq (c:=c) (lo:=lo) K g k (zero:=ev z);have p:IE (M++[(k,z)]) k=some z:=by have:=Ry (k:=k) (k':=k) (v:=z) (M:=M);rw[(Mk hi).2 z,AX rfl]at this;exact this
  rw[p]at e;refine⟨M.length,a,?_,by rw[e,j];rfl,fun v=>?_⟩
  ·simp only[Ir,f,K.is_,H,Lf,OH,Bj,QH K,hi,j,d];simp[Gj,Lh]
  ·rw[(Mk hi).2 v];unfold Gj at g;simp only[Ha,Bg,f,Bj,g];rw[Bd,Fq,VH (Nat.lt_succ_self _)];simp only;rw[d,WC];simp[Gj]
 |some i=>
  obtain⟨a,o,l,q⟩:=QF hi;have e:=Sq (c:=c) (lo:=lo) K n k (zero:=ev z);refine⟨i,h,?_,by rw[e,l];rfl,fun v=>?_⟩
  ·simp only[Ir,f,K.is_,H,Lf,OH,Bj,QH K,hi,l];simp[a]
  ·rw[q,xk ⟨a,o⟩];simp only[Ha,Bg,f,Bj,H,VH a]
theorem iO(H:AA h m=some (Gj enc ev M)){o:Nat}(a:CL h<=o):KE o (.Cq m) ⟨h,c,lo⟩=some (.AL o 0,⟨(o,.iter (some m) M.length [] M.length)::h,c,lo⟩):=by unfold Gj at H;simp only[KE,H,BF a,dO]
theorem yh{n:Nat}{seen:List Nat}:candidates (List.range n) n seen=if ((List.range n).filter fun b=>!seen.contains b).isEmpty then [none] else ((List.range n).filter fun b=>!seen.contains b).map some:=by
 have c:((List.range n).filter fun b=>!seen.contains b).filter (fun b=>decide (b<n))=(List.range n).filter fun b=>!seen.contains b:=List.filter_eq_self.2 fun b a=>by simpa using Gd.1 (Mw.1 a).1
 have d:((List.range n).filter fun b=>!seen.contains b).filter (fun b=>decide (n<=b))=[]:=by rw[List.filter_eq_nil_iff];intro b a;have:=Gd.1 (Mw.1 a).1;simp;omega
 simp only[candidates,c,d,Fh];split
 ·rename_i h;rw[List.isEmpty_iff.1 h];simp
 ·simp
theorem qG{i:Nat}{seen:List Nat}{Q:AV×St->Prop}(y:lo<=i)(t:AA h m=some (Gj enc ev M))(w:AA h i=some (.iter (some m) M.length seen M.length))(r:(∀b,b<M.length->b∈seen)->Q (.tuple [.bool false],⟨h,c,lo⟩))(more:∀b (k:b<M.length),b∉seen->Q (.tuple [.bool true,enc M[b].1,ev M[b].2],⟨Ah h i (.iter (some m) M.length (seen++[b]) M.length),c,lo⟩)) :
 (Qp [.AL i 0] ⟨h,c,lo⟩).all Q:=by
 have k:Nat.blt i lo=false:=by rw[blt_eq];simp;omega
 have f:(!seen.isEmpty&&!(List.range M.length).isEmpty&&(List.range M.length).all (Nat.ble M.length))=false:=by
  cases hK:M.length with
  |zero=>simp
  |succ n=>
   have:(List.range (n+1)).all (Nat.ble (n+1))=false:=by rw[List.all_eq_false];exact⟨0,by simp,by simp[ble_eq]⟩
   simp[this]
 simp only[Gj]at t;simp only[Qp,w,k,Bj,t,f];rw[yh];generalize d:((List.range M.length).filter fun b=>!seen.contains b)=left;have a:∀b,b∈left↔b<M.length/\b∉seen:=fun b=>by rw[←d,Mw,Gd];simp
 cases left with
 |nil=>
  intro j q;have:j=0:=by simpa using q
  subst this;exact r fun b k=>Decidable.not_not.1 fun h=>by have:=(a b).2 ⟨k,h⟩;simp at this
 |cons l left=>
  intro j q;simp only[List.isEmpty_cons,GA,Dn,Fz]at q⊢;have e:j<(l::left).length:=by simp only[FV]at q⊢;omega
  obtain⟨b,g⟩:∃b,(l::left)[j]=b:=⟨_,rfl⟩;have s:b∈l::left:=g▸BH e;obtain⟨o,u⟩:=(a b).1 s;have x:((l::left).map some)[j]? =some (some b):=by rw[Gl,Bu e,g];rfl
  have v:(M.map fun p=>enc p.1)[b]? =some (enc M[b].1):=by simp[o]
  have z:(M.map fun p=>ev p.2)[b]? =some (ev M[b].2):=by simp[o]
  rw[x];simp only[Yd,VH o,v,z];exact more b o u
theorem xn{i b:Nat}{seen:List Nat}(d:AA h m=some (Gj enc ev M))(e:AA h i=some (.iter (some m) M.length (seen++[b]) M.length))(a:b<M.length) :
 NH (.AL i 0) ⟨h,c,lo⟩=some (.tuple [enc M[b].1,ev M[b].2],⟨h,c,lo⟩):=by
 have g:(M.map fun p=>enc p.1)[b]? =some (enc M[b].1):=by simp[a]
 have f:(M.map fun p=>ev p.2)[b]? =some (ev M[b].2):=by simp[a]
 simp only[Gj]at d;simp[NH,e,d,VH a,g,f]
end
def fa:AV->Nat->AV
 |.AL o a,n=>.AL o (a+n)
 |.CB l,n=>.CB (l.drop n)
 |v,_=>v
structure Cells (h:Aa)(q:AV)(cs:List AV):Prop where
 ptr:(∃o a,q=.AL o a)∨∃l,q=.CB l
 all:Ak h q cs.length=some cs
 one:∀j (hj:j<cs.length),AQ h (fa q j)=some cs[j]
theorem AAw{q:AV}(h:(∃o a,q=.AL o a)∨∃l,q=.CB l):fa q 0=q:=by rcases h with⟨o,a,rfl⟩|⟨l,rfl⟩<;>rfl
section
variable {h:Aa}{q:AV}{cs:List AV}
theorem Cells.zero(H:Cells h q cs)(a:0<cs.length):AQ h q=some cs[0]:=by have:=H.one 0 a;rwa [AAw H.ptr]at this
theorem Cells.fld(H:Cells h q cs)(j:Nat)(b:St):Cx j q b=some (fa q j,b):=by rcases H.ptr with⟨o,a,rfl⟩|⟨l,rfl⟩<;>rfl
theorem Cells.nil(H:Cells h q cs)(st:St):DT q st=some (q,st):=by rcases H.ptr with⟨o,a,rfl⟩|⟨l,rfl⟩<;>rfl
theorem Cells.val(h:Aa)(cs:List AV):Cells h (.CB cs) cs:=by refine⟨.inr ⟨_,rfl⟩,by simp,fun j a=>?_⟩;show AQ h (.CB (cs.drop j))=_;rw[MP a];rfl
theorem Cells.obj{o off ty sz:Nat}{X:List AV}{ext:Bool}(a:AA h o=some (.cells ty sz X ext))(d:off+cs.length<=X.length)(c:(X.drop off).take cs.length=cs):Cells h (.AL o off) cs:=by
 refine⟨.inl ⟨_,_,rfl⟩,?_,fun j b=>?_⟩
 ·rw[Bv,a,Pf,AX d,c]
 ·show AQ h (.AL o (off+j))=_;rw[BB,a,Ik];have e:cs[j]? =((X.drop off).take cs.length)[j]?:=by rw[c]
  rw[List.getElem?_take_of_lt b,QU]at e;rw[←e];exact Bu b
theorem Cells.sP{o ty sz:Nat}{ext:Bool}(a:AA h o=some (.cells ty sz cs ext)):Cells h (.AL o 0) cs:=Cells.obj a (by omega) (by simp)
end
section
variable {α:Type}{enc:α->List AV}{ty sz:Nat}
structure RS (h:Aa)(sz:Nat)(enc:α->List AV)(w:AV)(L:List α):Prop where
 len:CV w=some L.length
 at_:∀i (hi:i<L.length),∃q,(∀st:St,st.h=h->AY sz w (.int .i64 (i:Int)) st=some (q,st))/\Cells h q (enc L[i])
theorem RS.BZ{h:Aa}{w:AV}{L:List α}(H:RS h sz enc w L)(st:St):BZ .slice w st=some (.int .i64 (L.length:Int),st):=by simp[Go.Am.BZ,H.len]
theorem RS.sl{h:Aa}{w:AV}{L:List α}{el:α->AV}(H:Co w sz (L.map el))(a:∀x,(el x).cells=enc x):RS h sz enc w L where
 len:=by rw[H.iK];simp
 at_:=fun i b=>⟨.CB (enc L[i]),fun st _=>by
  have:=H.idx (i:=i) (by simpa using b) (st:=st)
  rw[this]
  simp[a],Cells.val _ _⟩
inductive Gq (h:Aa) (ty sz:Nat) (enc:α->List AV):AV->List α->Prop
 |nl:Gq h ty sz enc .AO []
 |ob (id:Nat) (L:List α) (rest:List AV) (ext:Bool) (cap:Option Nat) (hf:AA h id=some (.cells ty sz (L.flatMap enc++rest) ext))
  (hc:(cap=none/\ext=true)∨∃k,cap=some (L.length+k)/\rest.length=k*sz):Gq h ty sz enc (.AU id 0 L.length cap) L
variable {h h':Aa}{w:AV}{L:List α}
theorem Gq.len(H:Gq h ty sz enc w L):CV w=some L.length:=by cases H<;>rfl
theorem Gq.BZ(H:Gq h ty sz enc w L)(st:St):BZ .slice w st=some (.int .i64 (L.length:Int),st):=by cases H<;>rfl
theorem Gq.heap(H:Gq h ty sz enc w L)(e:∀p,Az w=some p->AA h' p=AA h p):Gq h' ty sz enc w L:=by
 cases H with
 |nl=>exact .nl
 |ob id _ rest ext cap a b=>exact .ob id _ rest ext cap ((e id rfl).trans a) b
theorem Gq.lt(H:Gq h ty sz enc w L){p:Nat}(e:Az w=some p):p<CL h:=by
 cases H with
 |nl=>cases e
 |ob id _ rest ext cap a b=>cases e;exact Fb a
theorem Gq.mi(H:Gq h ty sz enc w L):(w=.AO/\L=[])∨∃id cap,w=.AU id 0 L.length cap:=by
 cases H with
 |nl=>exact .inl ⟨rfl,rfl⟩
 |ob id _ rest ext cap a b=>exact .inr ⟨id,cap,rfl⟩
theorem Ib(a:∀x,(enc x).length=sz):∀L:List α,(L.flatMap enc).length=L.length*sz
 |[]=>by simp
 |x::L=>by rw[Cn,Bd,a,Ib a L,FV,Il];omega
theorem Uv(a:∀x,(enc x).length=sz){L:List α}{i:Nat}(b:i<L.length):L.flatMap enc=(L.take i).flatMap enc++(enc L[i]++(L.drop (i+1)).flatMap enc)/\((L.take i).flatMap enc).length=i*sz:=by
 refine⟨?_,by rw[Ib a,Gv,Li (by omega)]⟩;have e:L=L.take i++(L[i]::L.drop (i+1)):=by rw[←MP b,Kq]
 conv=>lhs;rw[e]
 rw[KH,Cn]
theorem Gq.idx(H:Gq h ty sz enc w L){i:Nat}(a:i<L.length):∃id cap,w=.AU id 0 L.length cap/\∀st:St,st.h=h->AY sz w (.int .i64 (i:Int)) st=some (.AL id (i*sz),st):=by
 cases H with
 |nl=>simp at a
 |ob id _ rest ext cap b e=>refine⟨id,cap,rfl,fun st d=>?_⟩;subst d;have c:decide (i<L.length)=true:=Bw a;simp[AY,Bg,b,blt_eq,c]
theorem Gq.cells(f:∀x,(enc x).length=sz){id i:Nat}{cap:Option Nat}(H:Gq h ty sz enc (.AU id 0 L.length cap) L)(e:i<L.length):Cells h (.AL id (i*sz)) (enc L[i]):=by
 generalize a:AV.AU id 0 L.length cap=w at H;cases H with
 |nl=>cases a
 |ob id _ rest ext cap d g=>
  cases a;obtain⟨b,c⟩:=Uv f e;refine Cells.obj d ?_ ?_
  ·rw[b,Bd,Bd,Bd,c];omega
  ·rw[b,←c,Hz,List.drop_left,Hz,Je]
theorem Gq.rs(b:∀x,(enc x).length=sz)(H:Gq h ty sz enc w L):RS h sz enc w L where
 len:=H.len
 at_:=fun i a=>by obtain⟨id,cap,e,q⟩:=H.idx a;exact⟨_,q,Gq.cells b (e▸H) a⟩
theorem Gq.pop(i:∀x,(enc x).length=sz)(l:0<sz)(H:Gq h ty sz enc w L){n:Nat}(q:n<L.length) :
 ∃d,(∀b:St,b.h=h->DW sz false true false [w,.int .i64 (n:Int)] b=some (d,b))/\Gq h ty sz enc d (L.take n)/\Az d=Az w:=by
 cases H with
 |nl=>simp at q
 |ob id _ rest ext cap c j=>
  have e:L.flatMap enc=(L.take n).flatMap enc++(L.drop n).flatMap enc:=by rw[←KH,Kq]
  have m:((L.drop n).flatMap enc).length=(L.length-n)*sz:=by rw[Ib i,IV]
  have f:AA h id=some (.cells ty sz ((L.take n).flatMap enc++((L.drop n).flatMap enc++rest)) ext):=by rw[c,e,Hz]
  have g:(L.take n).length=n:=by rw[Gv,Li (by omega)]
  refine⟨.AU id 0 n cap,fun b p=>?_,?_,rfl⟩
  ·subst p;rcases j with⟨rfl,_⟩|⟨k,rfl,_⟩
   ·have a:n*sz<=(L.flatMap enc++rest).length:=by rw[Bd,Ib i];have:=Im sz (show n<=L.length by omega);omega
    simp only[DW,Gi,Bg,GK,c,beq_eq,blt_eq,He,ble_eq,Option.getD,Ff,l,FN,Ba,CZ,La,Dz,OJ,Bw a,LY]
   ·have a:n<=L.length+k:=by omega
    simp only[DW,Gi,Bg,GK,c,beq_eq,blt_eq,He,ble_eq,Option.getD,Ff,l,FN,Ba,CZ,La,Dz,OJ,Bw a,LY]
  ·have:=Gq.ob (enc:=enc) id (L.take n) _ ext cap f (by
    rcases j with a|⟨k,a,o⟩
    ·exact .inl a
    ·refine .inr ⟨L.length-n+k,by rw[g,a];congr 1;omega,?_⟩
     rw[Bd,m,o,Hq])
   rwa [g]at this
theorem Xo{ty sz o off c lo:Nat}{X vs:List AV}{ext:Bool}(a:AA h o=some (.cells ty sz X ext))(b:lo<=o)(d:off+vs.length<=X.length):CO ⟨h,c,lo⟩ o off vs=some ⟨Ah h o (.cells ty sz (Bl X off vs) ext),c,lo⟩:=by
 have e:Nat.blt o lo=false:=by rw[blt_eq];simp;omega
 simp only[CO,e,Bj,a,ble_eq,Bw d,Ba]
theorem OY{A B C vs:List AV}(h:B.length=vs.length):Bl (A++(B++C)) A.length vs=A++(vs++C):=by unfold Bl;rw[Je,←h,show A.length+B.length=(A++B).length by simp,←Hz A B C,List.drop_left]
def Opn(w:AV):Prop:=∀id n q,w≠.AU id 0 n (some q)
theorem Gq.push(O:∀x,(enc x).length=sz)(hz:0<sz){bytes o c lo:Nat}(H:Gq h ty sz enc w L)(T:CL h<=o)(W:∀p,Az w=some p->lo<=p)(N:List α)(hl:L.length+N.length<=2^20)(hb:bytes<=1024) :
 ∃i h',CX o ty sz bytes w N.length (N.flatMap enc) ⟨h,c,lo⟩=some (i,⟨h',c,lo⟩)/\Gq h' ty sz enc i (L++N)/\CL h'<=o+1/\(∀p,p≠o->Az w≠some p->AA h' p=AA h p)/\(∀p,Az i=some p->p=o∨Az w=some p)/\(Opn w->Opn i):=by
 by_cases hN:N=[]
 ·subst hN;refine⟨w,h,?_,by rw[Fh];exact H,by omega,fun _ _ _=>rfl,fun _=>.inr,id⟩;have Y:sz≠0:=by omega
  cases H<;>simp[CX,beq_eq,Y]
 have K:N.length≠0:=fun e=>hN (Gn e);have A:sz≠0:=by omega
 have f:(L.length+N.length)*bytes<=room/\L.length+N.length<=room:=by have:=QO hl hb;unfold room;constructor<;>omega
 have ob:∀h',Gq ((o,BJ.cells ty sz ((L++N).flatMap enc) true)::h') ty sz enc (.AU o 0 (L.length+N.length) none) (L++N):=fun h'=>by rw[←Bd];exact .ob o (L++N) [] true none (by rw[Fh];exact BV rfl) (.inl ⟨rfl,rfl⟩)
 cases H with
 |nl=>simp only[GY,Dz]at f;refine⟨.AU o 0 (0+N.length) none,(o,.cells ty sz (N.flatMap enc) true)::h,?_,ob h,by rw[Ay];omega,fun p I _=>Ar (by omega),fun p e=>.inl (by simpa [Az]using e.symm),fun _ id n q e=>by cases e⟩;simp[CX,beq_eq,K,A,grow,ble_eq,f.1,f.2,BF T]
 |ob id _ rest ext cap P hc=>
  have hi:id<CL h:=Fb P;have m:=W id rfl;have B:(L.flatMap enc++rest).length=L.length*sz+rest.length:=by rw[Bd,Ib O]
  have F:L.length*sz<=(L.flatMap enc++rest).length:=by omega
  have y:(L.flatMap enc++rest).take (L.length*sz)=L.flatMap enc:=by rw[←Ib O L,Je]
  have J:(N.flatMap enc).length=N.length*sz:=Ib O N;have l:∀g,(N.length*sz<=rest.length)->((g=none/\ext=true)∨∃k,g=some (L.length+N.length+k)/\rest.length-N.length*sz=k*sz) ->
   ∃h',CO ⟨h,c,lo⟩ id (L.length*sz) (N.flatMap enc)=some ⟨h',c,lo⟩/\Gq h' ty sz enc (.AU id 0 (L.length+N.length) g) (L++N)/\CL h'<=o+1/\(∀p,p≠o->some id≠some p->AA h' p=AA h p):=fun g j z=>by
   have hs:Bl (L.flatMap enc++rest) (L.length*sz) (N.flatMap enc)=(L++N).flatMap enc++rest.drop (N.length*sz):=by
    have e1:rest=rest.take (N.length*sz)++rest.drop (N.length*sz):=(Kq _ _).symm;conv=>lhs;rw[e1]
    rw[←Ib O L,OY (by rw[Gv,J,Li j]),KH,Hz]
   refine⟨_,Xo P m (by rw[J,B];omega),?_,?_,fun p _ I=>Bn fun e=>I (by rw[e])⟩
   ·rw[hs,←Bd];exact .ob id (L++N) _ ext g (by rw[Fy rfl,P];rfl) (by rw[Bd,IV];exact z)
   ·rw[Cg];omega
  have grown:∀(d:Aa),CL d<=o->(∀p,p≠o->some id≠some p->AA d p=AA h p)->∃i h',grow o ty sz bytes L.length N.length (L.flatMap enc++N.flatMap enc) ⟨d,c,lo⟩=some (i,⟨h',c,lo⟩)/\Gq h' ty sz enc i (L++N)/\CL h'<=o+1/\(∀p,p≠o->some id≠some p->AA h' p=AA h p)/\(∀p,Az i=some p->p=o∨some id=some p)/\Opn i:=fun d Q Z=>by refine⟨.AU o 0 (L.length+N.length) none,(o,.cells ty sz ((L++N).flatMap enc) true)::d,?_,ob d,by rw[Ay];omega,fun p I t=>by rw[Ar (Aj I)];exact Z p I t,fun p e=>.inl (by simpa [Az]using e.symm),fun id n q e=>by cases e⟩;rw[KH];simp[grow,ble_eq,f.1,f.2,BF Q]
  simp only[CX,beq_eq,A,K,Lb,Bj,GG,P,Ff,ble_eq,Dz,Bw F,FN,Ba,FB,y];rcases hc with⟨rfl,rfl⟩|⟨k,rfl,D⟩
  ·simp only;by_cases hfit:(L.length+N.length)*sz<=(L.flatMap enc++rest).length
   ·simp only[Bw hfit,Ba];have V:N.length*sz<=rest.length:=by rw[B,Hq]at hfit;omega
    obtain⟨h',v,u,r,s⟩:=l none V (.inl ⟨rfl,rfl⟩);exact⟨_,h',by rw[v],u,r,fun p a b=>s p a b,fun p e=>.inr e,fun _ id n q e=>by cases e⟩
   ·have Q:=Xu (h:=h) (o:=id);simp only[FP hfit,Bj,QW,Bw m,Ba];obtain⟨i,h',v,u,r,s,R,S⟩:=grown _ (DV Q T) fun p _ t=>by rw[Gz,AJ fun e=>t (by rw[e])]
    exact⟨i,h',v,u,r,s,R,fun _=>S⟩
  ·simp only;by_cases hfit:L.length+N.length<=L.length+k
   ·simp only[Bw hfit,Ba];have U:N.length<=k:=by omega
    have V:N.length*sz<=rest.length:=by rw[D];exact Im _ U
    obtain⟨h',v,u,r,s⟩:=l (some (L.length+k)) V (.inr ⟨k-N.length,by congr 1;omega,by rw[D,←Nat.sub_mul]⟩);exact⟨_,h',by rw[v],u,r,fun p a b=>s p a b,fun p e=>.inr e,fun ho=>absurd rfl (ho _ _ _)⟩
   ·simp only[FP hfit,Bj];obtain⟨i,h',v,u,r,s,R,S⟩:=grown h T fun p _ _=>rfl;exact⟨i,h',v,u,r,s,R,fun _=>S⟩
end
section
variable {E:Env}{call:Nat->List AV->St->M (AV×St)}{s d i:Nat}{k:AK}{args:List Ki}{ts:TS}{st:St}{p:Na}{l:List (Nat×Dr×List Nat)}
theorem Dp{j:Nat}{a:List Nat}(b:d<65535):Db E call s ((i,⟨some d,none,k,args⟩,j::a)::l) p ts st=(Kg E call s k (WL ts args) st).bind fun r=>bif Fv s i p r.2 then Db E call s l ((j::a,k,WL ts args,r.1)::p) (ts.set d r.1) r.2 else .fail:=by rw[KJ b];rfl
theorem DX:Db E call s ((i,⟨some d,none,k,args⟩,[])::l) p ts st=(Kg E call s k (WL ts args) st).bind fun r=>bif Fv s i p r.2 then Db E call s l p (ts.set d r.1) r.2 else .fail:=by rw[Db];simp only[MK,wanted,Ba,put,M.bind_assoc,M.JZ,Re]
theorem Dl:Db E call s ((i,⟨none,none,k,args⟩,[])::l) p ts st=(Kg E call s k (WL ts args) st).bind fun r=>bif Fv s i p r.2 then Db E call s l p ts r.2 else .fail:=by rw[Db];simp only[MK,wanted,Ba,put,M.bind_assoc,M.JZ,Re]
theorem Tj{b:List Nat}{a:List AV}{v:AV}(h:b.any (Nat.beq i)=false):Fv s i ((b,k,a,v)::p) st=Fv s i p st:=by show ((!b.any (Nat.beq i)||_)&&Fv s i p st)=_;rw[h];rfl
theorem Rm{b:List Nat}{a:List AV}{v:AV}(h:step s k a st=some (v,st)):Fv s i ((b,k,a,v)::p) st=Fv s i p st:=by show ((!b.any (Nat.beq i)||(match step s k a st with|some r=>AV.beq v r.1|none=>false))&&Fv s i p st)=_;rw[h];simp only[AV.DU,Bool.or_true,QW]
end
theorem Ih{h:Aa}{c c' lo ty sz n:Nat}{v:AV}{zero cs:List AV}(i:CL h<=c)(b:lo<=c)(l:v.isTuple=false)(g:v.cells=cs)(f:cs.length=n)(j:zero.length=n) :
 ∃d a,BA c (.cells ty sz zero false) ⟨h,c',lo⟩=some ⟨d,c',lo⟩/\BM n (.AL c 0) v ⟨d,c',lo⟩=some (.undef,⟨a,c',lo⟩)/\AA a c=some (.cells ty sz cs false)/\CL a<=c+1/\∀p,p≠c->AA a p=AA h p:=by
 refine⟨(c,.cells ty sz zero false)::h,(c,.cells ty sz cs false)::h,BF i,?_,BV rfl,by rw[Ay];omega,fun p k=>Ar (Aj k)⟩;rw[CE,BV rfl,CW,AX ⟨l,by rw[g];exact f⟩,g,AX ⟨b,by omega⟩];have e:Bl zero 0 cs=cs:=by unfold Bl;simp[f,j]
 rw[e,dN rfl]
theorem JE{α:Type}{enc:α->List AV}{h:Aa}{c c' lo d sz bytes:Nat}{w v:AV}{L:List α}{x:α}{zero:List AV}(k:∀x,(enc x).length=sz)(r:0<sz)(G:Gq h d sz enc w L)(y:CL h<=c)(l:∀p,Az w=some p->lo<=p)(D:v.isTuple=false)(H:v.cells=enc x)(j:zero.length=sz)(P:L.length<2^20)(z:bytes<=1024) :
 BC c d sz 1 zero [0] [v]=some (.AU c 0 1 (some 1),.cells d sz (enc x) false)/\∃b g f,BA c (.cells d sz (enc x) false) ⟨h,c',lo⟩=some ⟨b,c',lo⟩/\Bq (c+1) d sz bytes w (.AU c 0 1 (some 1)) ⟨b,c',lo⟩=some (g,⟨f,c',lo⟩) /\
  Gq f d sz enc g (L++[x])/\CL f<=c+2/\(∀p,p<c->Az w≠some p->AA f p=AA h p)/\(∀p,Az g=some p->p=c+1∨Az w=some p)/\(Opn w->Opn g):=by
 refine⟨?_,?_⟩
 ·have e:Bl zero 0 (enc x)=enc x:=by unfold Bl;simp[k,j]
  have q:Nat.blt 0 sz=true:=by rw[blt_eq];exact Bw r
  simp only[BC,q,Ba,Dh,List.map_nil,Bp,D,Bj,H,k,beq_eq,ble_eq,La,Dz,j,Ff,Ao,FN,e,Nat.one_mul]
 ·obtain⟨b,a⟩:∃b:Aa,b=(c,BJ.cells d sz (enc x) false)::h:=⟨_,rfl⟩;have B:CL b<=c+1:=by rw[a,Ay];omega
  have F:Gq b d sz enc w L:=G.heap fun p s=>by have:=G.lt s;rw[a,Ar (by omega)]
  obtain⟨g,f,O,u,t,J,I,K⟩:=F.push (c:=c') (lo:=lo) (o:=c+1) (bytes:=bytes) k r B l [x] (by simp;omega) z;refine⟨b,g,f,by rw[a];exact BF y,?_,u,t,fun p s A=>?_,I,K⟩
  ·have n:lenOf (.AU c 0 1 (some 1))=some [x].length:=rfl;have m:BS b sz [x].length (.AU c 0 1 (some 1))=some ([x].flatMap enc):=by
    have N:AA b c=some (.cells d sz (enc x) false):=by rw[a,BV rfl]
    have i:=k x;simp[BS,N,ble_eq,i];rw[←i,FQ]
   simp only[Bq,n,m];exact O
  ·rw[J p (by omega) A,a,Ar (by omega)]
end Go.Am
namespace Go.Am
open Go
structure Ac.kZ (g:Ac):Prop where
 small:g.Small
 ok:g.Ok
 ne:([]:Bz)∉g.Ae
theorem Yj{x y:Place}:Iz x y=true↔x.1<y.1∨(x.1=y.1/\x.2<y.2):=by unfold Iz;rw[blt_eq];simp
theorem PI:MR Iz:=by
 refine⟨fun x=>?_,fun x y z d c=>?_,fun x y d c=>?_⟩
 ·rw[Bool.eq_false_iff];intro h;rw[Yj]at h;omega
 ·rw[Yj]at d c ⊢;omega
 ·rw[Bool.eq_false_iff,ne_eq,Yj]at d c;obtain⟨a,b⟩:=x;obtain⟨f,g⟩:=y;simp only at d c;have e:a=f:=by omega
  subst e;have i:b=g:=by omega
  rw[i]
abbrev Ig:=List (Place×Nat)
def CR(M:Ig)(p:Place):Nat:=(IE M p).getD 0
theorem xB{M:Ig}{p q:Place}{m:Nat}:CR (Iw M q m) p=if p=q then m else CR M p:=by unfold CR;rw[Ry];split<;>rfl
theorem Vp{M:Ig}{q:Place}{m:Nat}:CR (Iw M q (CR M q ||| m))=WH (CR M) q m:=by
 funext p;rw[xB];unfold WH;split
 ·rfl
 ·rfl
structure Valid (g:Ac)(M:Ig):Prop where
 nodup:(M.map (·.1)).Nodup
 place:∀x∈M,-1<=x.1.1/\x.1.1<g.AP.length/\x.1.2<=(g.Dk x.1.1).length
 pos:∀x∈M,x.2≠0
 bits:∀x∈M,∀j,x.2.testBit j=true->j=60∨j<g.Ae.length
theorem QA{M:Ig}(h:(M.map (·.1)).Nodup){p:Place}{m:Nat}(a:(p,m)∈M):CR M p=m:=by unfold CR;rw[(Rz h).2 a];rfl
theorem Oe{M:Ig}(h:(M.map (·.1)).Nodup){p:Place}(c:p∈M.map (·.1)):(p,CR M p)∈M:=by obtain⟨⟨q,m⟩,b,a⟩:=BP.1 c;simp only at a;subst a;rw[QA h b];exact b
theorem KR{M:Ig}{p:Place}(a:p∉M.map (·.1)):CR M p=0:=by unfold CR;rw[QG.2 a];rfl
theorem Valid.key{g:Ac}{M:Ig}(V:Valid g M){p:Place}:p∈M.map (·.1)↔CR M p≠0:=by
 constructor
 ·intro h;exact V.pos _ (Oe V.nodup h)
 ·intro h;exact Qb fun a=>h (KR a)
theorem Valid.aP{g:Ac}{M:Ig}(V:Valid g M){p:Place}{j:Nat}(h:(CR M p).testBit j=true):j=60∨j<g.Ae.length:=by
 by_cases hp:p∈M.map (·.1)
 ·exact V.bits _ (Oe V.nodup hp) j h
 ·rw[KR hp]at h;simp at h
theorem Xl{m n:Nat}(c:n<=60)(h:∀j,m.testBit j=true->j=60∨j<n):m<2^64:=by
 refine Bt (Nat.lt_pow_two_of_testBit m (n:=61) fun j b=>?_) (by omega);cases h1:m.testBit j with
 |false=>rfl
 |true=>rcases h j h1 with a|a<;>omega
theorem Valid.AFZ{g:Ac}{M:Ig}(V:Valid g M)(a:g.Small)(p:Place):CR M p<2^64:=
 Xl (n:=g.Ae.length) (by have:=a.Ae;omega) fun j h=>V.aP h
structure VW (g:Ac)(S:Ig):Prop where
 valid:Valid g S
 up:S.Pairwise fun x y=>Iz x.1 y.1=true
theorem iI{g:Ac}(H:g.kZ){m j:Nat}(b:j<g.Ae.length):Lets g m g.Ae[j]↔m.testBit j=true:=by
 constructor
 ·rintro (⟨a,_⟩|⟨i,a,c⟩)
  ·exact absurd (a▸BH b) H.ne
  ·obtain⟨d,e⟩:=GJ.1 a;have:i=j:=(List.getElem_inj H.ok.up.nodup).1 e;subst this;exact c
 ·intro h;exact .inr ⟨j,Bu b,h⟩
theorem iH{g:Ac}(H:g.kZ){m:Nat}:Lets g m []↔m.testBit 60=true:=by
 constructor
 ·rintro (⟨_,h⟩|⟨i,a,_⟩)
  ·exact h
  ·exact absurd (List.mem_of_getElem? a) H.ne
 ·exact fun h=>.inl ⟨rfl,h⟩
theorem aV{g:Ac}{m:Nat}(c:m≠0)(d:∀j,m.testBit j=true->j=60∨j<g.Ae.length):∃a,Lets g m a:=by
 obtain⟨j,b⟩:=Nat.exists_testBit_of_ne_zero c;rcases d j b with rfl|h
 ·exact⟨[],.inl ⟨rfl,b⟩⟩
 ·exact⟨_,.inr ⟨j,Bu h,b⟩⟩
theorem VI{g:Ac}(H:g.kZ){m n:Nat}(d:∀j,m.testBit j=true->j=60∨j<g.Ae.length)(h:∀a,Lets g m a->Lets g n a):∀j,m.testBit j=true->n.testBit j=true:=by
 intro j c;rcases d j c with rfl|b
 ·exact (iH H).1 (h _ ((iH H).2 c))
 ·exact (iI H b).1 (h _ ((iI H b).2 c))
theorem cK{g:Ac}{m n:Nat}(h:∀j,m.testBit j=true->n.testBit j=true){a:Bz}(d:Lets g m a):Lets g n a:=by
 rcases d with⟨c,b⟩|⟨j,c,b⟩
 ·exact .inl ⟨c,h _ b⟩
 ·exact .inr ⟨j,c,h _ b⟩
theorem AAH{g:Ac}(H:g.kZ){S T:Ig}(b:VW g S)(c:VW g T)(h:∀x,JO g (CR S) x↔JO g (CR T) x):S=T:=by
 have f:∀p,CR S p=CR T p:=fun p=>by apply Nat.eq_of_testBit_eq;intro j;have o:=VI H (m:=CR S p) (n:=CR T p) (fun j=>b.valid.aP) (fun a k=>(h ⟨p.1,p.2,a⟩).1 k) j;have l:=VI H (m:=CR T p) (n:=CR S p) (fun j=>c.valid.aP) (fun a k=>(h ⟨p.1,p.2,a⟩).2 k) j;cases e1:(CR S p).testBit j<;>cases e2:(CR T p).testBit j<;>simp_all
 refine YO (lt:=fun x y:Place×Nat=>Iz x.1 y.1=true) (fun x h=>?_) (fun x y z o l=>PI.tr _ _ _ o l) b.up c.up fun x=>?_
 ·rw[PI.irr]at h;cases h
 ·obtain⟨p,m⟩:=x;constructor
  ·intro d;have e:=QA b.valid.nodup d;have i:p∈T.map (·.1):=c.valid.key.2 (by rw[←f,e];exact b.valid.pos _ d);have:=Oe c.valid.nodup i;rwa [←f,e]at this
  ·intro d;have e:=QA c.valid.nodup d;have i:p∈S.map (·.1):=b.valid.key.2 (by rw[f,e];exact c.valid.pos _ d);have:=Oe b.valid.nodup i;rwa [f,e]at this
def pX(g:Ac):List (Nat×Nat):=(List.range g.AP.length).flatMap fun n=>(List.range 61).map fun j=>(n,j)
def TM(g:Ac)(M:Ig):Nat:=(pX g).countP fun s=>!(CR M ((s.1:Int),0)).testBit s.2
theorem bQ(g:Ac):(pX g).length=g.AP.length*61:=by
 unfold pX;induction g.AP.length with
 |zero=>rfl
 |succ n a=>rw[Lh (n:=n),KH,Bd,a];simp;omega
theorem AA8{g:Ac}(a:g.Small)(M:Ig):TM g M<=732:=by have b:TM g M<=(pX g).length:=List.countP_le_length;have:=bQ g;have:=a.many;omega
theorem uV{g:Ac}{M:Ig}{k m j:Nat}(c:k<g.AP.length)(d:j<61)(h:m.testBit j=true)(f:(CR M ((k:Int),0)).testBit j=false):TM g (Iw M ((k:Int),0) (CR M ((k:Int),0) ||| m))<TM g M:=by
 refine WM (a:=(k,j)) (fun s _ b=>?_) ?_ ?_ ?_
 ·rw[Vp]at b;simp only[WH,Fp]at b⊢;split at b
  ·rename_i e;rw[e];rw[Hw,Bool.or_eq_false_iff]at b;exact b.1
  ·exact b
 ·exact Ka.2 ⟨k,Gd.2 c,BP.2 ⟨j,Gd.2 d,rfl⟩⟩
 ·rw[Vp];simp[WH,h]
 ·simp[f]
structure TQ (g:Ac)(K:It->Prop)(M:Ig)(L:List Place):Prop where
 val:Valid g M
 keys:∀p∈L,p∈M.map (·.1)
 sound:∀x,JO g (CR M) x->vN g K x
 base:∀x,K x->JO g (CR M) x
 done:∀p,p∉L->Wl g (CR M) p
structure vI (g:Ac)(K:It->Prop)(M0:Ig)(p:Place)(A:Bz)(m:Nat)(R:List Nat)(i:Nat)(M:Ig)(L:List Place):Prop where
 val:Valid g M
 keys:∀p∈L,p∈M.map (·.1)
 sound:∀x,JO g (CR M) x->vN g K x
 base:∀x,K x->JO g (CR M) x
 done:∀q,q∉L->q≠p->Wl g (CR M) q
 self:p∉L->CR M p=CR M0 p
 mono:∀q b,Lets g (CR M0 q) b->Lets g (CR M q) b
 given:∀k∈R.take i,∀b,Lets g m b->Lets g (CR M ((k:Int),0)) b
 asks:zX g (CR M0) p A m
 hne:∃a,Lets g (CR M0 p) a
 mb:∀j,m.testBit j=true->j=60∨j<g.Ae.length
variable {g:Ac}{K:It->Prop}{M M0:Ig}{L:List Place}{p:Place}{A:Bz}{m i:Nat}{R:List Nat}
theorem TQ.Ai(V:Valid g M)(f:∀x,K x↔JO g (CR M) x)(i:∀q,q∈L↔q∈M.map (·.1)):TQ g K M L where
 val:=V
 keys:=fun q d=>(i q).1 d
 sound:=fun x e=>.base ((f x).2 e)
 base:=fun x e=>(f x).1 e
 done:=fun q d A k n l j a b c _=>by rw[KR fun h=>d ((i q).2 h)]at c;exact absurd c aU
theorem TQ.skip(W:TQ g K M (L++[p]))(h:∀A,(g.Dk p.1)[p.2]? =some A->A∉g.Km):TQ g K M L where
 val:=W.val
 keys:=fun q c=>W.keys q (KI _ c)
 sound:=W.sound
 base:=W.base
 done:=fun q c=>by
  by_cases e:q=p
  ·subst e;intro A k n f j a b _ _;exfalso;refine h A k ?_;rw[←j,List.getD,Bu f];exact Ac.Yl (BH f)
  ·exact W.done q fun i=>by
    rcases Ca.1 i with d|d
    ·exact c d
    ·exact e (by simpa using d)
theorem TQ.ADQ(W:TQ g K M (L++[p]))(d:zX g (CR M) p A m)(mb:∀j,m.testBit j=true->j=60∨j<g.Ae.length):vI g K M p A m R 0 M L where
 val:=W.val
 keys:=fun q a=>W.keys q (KI _ a)
 sound:=W.sound
 base:=W.base
 done:=fun q a e=>W.done q fun c=>by
  rcases Ca.1 c with b|b
  ·exact a b
  ·exact e (by simpa using b)
 self:=fun _=>rfl
 mono:=fun _ _ h=>h
 given:=by simp
 asks:=d
 hne:=aV (W.val.key.1 (W.keys p (by simp))) fun j=>W.val.aP
 mb:=mb
theorem vI.same(W:vI g K M0 p A m R i M L)(e:i<R.length)(h:∀j,m.testBit j=true->(CR M ((R[i]:Int),0)).testBit j=true):vI g K M0 p A m R (i+1) M L:=by
 have d:∀k∈R.take (i+1),∀b,Lets g m b->Lets g (CR M ((k:Int),0)) b:=fun k a b c=>by
  rw[Gy e,Ca,Di]at a;rcases a with a|rfl
  ·exact W.given k a b c
  ·exact cK h c
 exact⟨W.val,W.keys,W.sound,W.base,W.done,W.self,W.mono,d,W.asks,W.hne,W.mb⟩
theorem vI.more(W:vI g K M0 p A m R i M L)(N:i<R.length)(O:R[i]<g.AP.length)(J:(g.AP.getD R[i] default).left=A)(z:m≠0) :
 vI g K M0 p A m R (i+1) (Iw M ((R[i]:Int),0) (CR M ((R[i]:Int),0) ||| m)) (L++[((R[i]:Int),0)]):=by
 have r:CR (Iw M ((R[i]:Int),0) (CR M ((R[i]:Int),0) ||| m))=WH (CR M) ((R[i]:Int),0) m:=Vp;have a:∀q b,Lets g (CR M q) b->Lets g (WH (CR M) ((R[i]:Int),0) m q) b:=fun q b l=>by
  unfold WH;split
  ·rename_i e;subst e;exact Xc.2 (.inl l)
  ·exact l
 have F:CR M ((R[i]:Int),0) ||| m≠0:=fun e=>z (Nat.or_eq_zero_iff.1 e).2
 have d:=Vv (k:=(((R[i]:Nat):Int),0)) (v:=CR M ((R[i]:Int),0) ||| m) (M:=M);have f:∀x∈Iw M ((R[i]:Int),0) (CR M ((R[i]:Int),0) ||| m),x∈M∨x=(((R[i]:Int),0),CR M ((R[i]:Int),0) ||| m):=fun x c=>by
  obtain⟨q,v⟩:=x;have t:=(Rz (Vn W.val.nodup)).2 c;rw[Ry]at t;split at t
  ·rename_i e;cases t;right;rw[e]
  ·exact .inl ((Rz W.val.nodup).1 t)
 have D:∀q,q∈M.map (·.1)->q∈(Iw M ((R[i]:Int),0) (CR M ((R[i]:Int),0) ||| m)).map (·.1):=fun q n=>by
  rw[d];split
  ·exact n
  ·exact KI _ n
 refine⟨⟨Vn W.val.nodup,fun x c=>?_,fun x c=>?_,fun x c j o=>?_⟩,fun q n=>?_,fun x c=>?_,fun x c=>?_,fun q n y=>?_,fun I=>?_,fun q b l=>?_,fun k s b l=>?_,W.asks,W.hne,W.mb⟩
 ·rcases f x c with h|rfl
  ·exact W.val.place x h
  ·exact⟨by show (-1:Int)<=((R[i]:Nat):Int);omega,by show ((R[i]:Nat):Int)<_;omega,CZ _⟩
 ·rcases f x c with h|rfl
  ·exact W.val.pos x h
  ·exact F
 ·rcases f x c with h|rfl
  ·exact W.val.bits x h j o
  ·simp only[Hw,FO]at o;rcases o with o|o
   ·exact W.val.aP o
   ·exact W.mb j o
 ·rcases Ca.1 n with h|h
  ·exact D q (W.keys q h)
  ·simp only[Di]at h;subst h;rw[d];split
   ·assumption
   ·simp
 ·rw[r]at c;exact nY W.sound W.asks (fun b=>W.mono p b) W.hne O J c
 ·rw[r];exact a _ _ (W.base x c)
 ·rw[r];have u:q∉L:=fun h=>n (KI _ h);have H:q≠((R[i]:Int),0):=fun e=>n (by rw[e];simp);exact nW (W.done q u y) (by unfold WH;rw[AJ H]) a
 ·rw[r];have w:p∉L:=fun h=>I (KI _ h);have B:p≠((R[i]:Int),0):=fun e=>I (by rw[e];simp);unfold WH;rw[AJ B];exact W.self w
 ·rw[r];exact a _ _ (W.mono q b l)
 ·rw[r];rw[Gy N,Ca,Di]at s;rcases s with s|rfl
  ·exact a _ _ (W.given k s b l)
  ·unfold WH;rw[AX rfl];exact Xc.2 (.inr l)
theorem vI.over(W:vI g K M0 p A m R R.length M L)(d:∀(n:Nat),n<g.AP.length->(g.AP.getD n default).left=A->n∈R):TQ g K M L where
 val:=W.val
 keys:=W.keys
 sound:=W.sound
 base:=W.base
 done:=fun q a=>by
  by_cases e:q=p
  ·subst e;refine yG W.asks (W.self a) fun n h c b f=>?_;exact W.given n (by rw[FQ];exact d n h c) b f
  ·exact W.done q a e
theorem TQ.closed(W:TQ g K M [])(x:It):JO g (CR M) x↔vN g K x:=uW W.sound W.base (fun p=>W.done p (by simp)) x
end Go.Am
namespace Go.Am
open Go
def Fx(n:Nat):List AV:=[.int .i64 (n:Int)]
theorem iE(n:Nat):(Fx n).length=1:=rfl
structure RL (h:Aa)(w:AV)(l:List Nat):Prop where
 rs:RS h 1 Fx w l
 from_:∀k,k<=l.length->∃w',(∀st:St,st.h=h->DW 1 true false false [w,.int .i64 (k:Int)] st=some (w',st))/\RS h 1 Fx w' (l.drop k)
theorem Ku{h:Aa}{w:AV}{l:List Nat}(H:Co w 1 (BI l)):RS h 1 Fx w l:=RS.sl (el:=fun n:Nat=>AV.int .i64 (n:Int)) H fun x=>rfl
theorem RL.sl{h:Aa}{w:AV}{l:List Nat}(H:Co w 1 (BI l)):RL h w l where
 rs:=Ku H
 from_:=fun k b=>by
  rcases H.out with⟨rfl,e⟩|⟨t,rfl⟩
  ·have c:l=[]:=Qv.1 e;subst c;have a:k=0:=by simpa using b
   subst a;refine⟨.AO,fun g _=>by simp[DW,Gi,asNat,GK],?_⟩;exact Ku ⟨.inl ⟨rfl,rfl⟩⟩
  ·refine⟨.list (t&&Nat.beq (BI l).length (BI l).length) 1 (BI (l.drop k)),fun g _=>?_,Ku ⟨.inr ⟨_,rfl⟩⟩⟩;have f:k<=(BI l).length:=by simpa using b
   have d:(BI l).drop k=BI (l.drop k):=by simp[BI,List.map_drop]
   simp only[DW,Gi,Bg,GK,beq_eq,Ff,Ba,Sg,Option.getD,ble_eq,Bw f,Bw (Ao (BI l).length),FN,FQ,d,LY]
theorem RL.ob{h:Aa}{id ty:Nat}{cap:Option Nat}{l:List Nat}(G:Gq h ty 1 Fx (.AU id 0 l.length cap) l):RL h (.AU id 0 l.length cap) l where
 rs:=G.rs iE
 from_:=fun k o=>by
  generalize m:AV.AU id 0 l.length cap=w at G;cases G with
  |nl=>cases m
  |ob id _ rest ext cap c t=>
   cases m;have q:(l.flatMap Fx++rest).length=l.length+rest.length:=by rw[Bd,Ib iE];omega
   have g:∀i,i<l.length->(l.flatMap Fx++rest)[i]? =some (.int .i64 ((l.getD i 0:Nat):Int)):=fun i a=>by
    have e:l.flatMap Fx=BI l:=by show l.flatMap (fun n:Nat=>[AV.int .i64 (n:Int)])=_;simp[BI,MM]
    rw[e,Oo (by simpa using a)];simp[BI,List.getD,a]
   refine⟨.AU id k (l.length-k) (cap.map (·-k)),fun r d=>?_,?_,fun i a=>⟨.AL id (k+i),fun r d=>?_,?_⟩⟩
   ·subst d;rcases t with⟨rfl,_⟩|⟨j,rfl,u⟩
    ·have f:l.length<=(l.flatMap Fx++rest).length:=by omega
     simp only[DW,Gi,Bg,GK,c,beq_eq,blt_eq,He,ble_eq,Option.getD,Ff,FN,Ba,Dz,Fe,Bw o,Bw f,LY,QR,show decide (0<1)=true from rfl]
    ·have f:l.length<=l.length+j:=by omega
     simp only[DW,Gi,Bg,GK,c,beq_eq,blt_eq,He,ble_eq,Option.getD,Ff,FN,Ba,Dz,Fe,Bw o,Bw f,LY,Jt,show decide (0<1)=true from rfl]
   ·show some (l.length-k)=_;rw[IV]
   ·subst d;rw[IV]at a;have p:decide (i<l.length-k)=true:=Bw a;simp[AY,Bg,c,blt_eq,p]
   ·rw[IV]at a;have e:=g (k+i) (by omega);have s:(l.drop k)[i]=l.getD (k+i) 0:=by simp[List.getD,show k+i<l.length by omega]
    rw[s];refine Cells.obj c (by rw[q];show k+i+1<=_;omega) ?_;have b:k+i<(l.flatMap Fx++rest).length:=by omega
    rw[MP b];rw[Bu b]at e;simp[Fx,JK e]
theorem RS.AG5{h:Aa}{w:AV}{l:List Nat}(H:RS h 1 Fx w l):Rd h w l.length fun i=>.int .i64 ((l.getD i 0:Nat):Int) where
 len:=H.len
 at_:=fun i a e d=>by obtain⟨q,c,b⟩:=H.at_ i a;refine⟨q,c e d,?_⟩;have:=b.zero (by simp[Fx]);rw[this];simp[Fx,List.getD,a]
structure kT (g:Ac)(F:List Nat)(N:List Bool):Prop where
 Nf:g.kZ
 nl:N.length=g.AB.length
 null:Tg g N
 fl:F.length=g.AB.length
 narrow:Sb F
 exact:UL g F
structure kr (h:Aa)(av:AV)(g:Ac)(F:List Nat)(N:List Bool)(ov ss:AV):Prop where
 out:∃cv nv fv sv,Cells h av [cv,nv,fv,sv,ov,ss]/\Gu cv g/\Co nv 1 (Cj N)/\Co fv 1 (HV F)/\RL h sv [g.ix g.Ai]
def Ac.DR(g:Ac)(r:Int):List Nat:=(g.Dk r).map g.ix
theorem Rp(g:Ac):g.Dk (-1)=[g.Ai]:=rfl
theorem Ox(g:Ac)(n:Nat):g.Dk (n:Int)=(g.AP.getD n default).right:=by unfold Ac.Dk;rw[AJ (by omega),OL]
theorem UG{k c lo:Nat}{h:Aa}{o x s:AV}{g:Ac}{F:List Nat}{N:List Bool}(A:kr h o g F N x s){r:Int}(L:-1<=r)(J:r<g.AP.length) :
 ∃w,Ab E (k+1) 101 [o,.int .i64 r] ⟨h,c,lo⟩=.ret (w,⟨h,c,lo⟩)/\RL h w (g.DR r):=by
 obtain⟨K,P,S,v,a,I,R,Q,f⟩:=A.out;rw[Av (fn:=C.f101) rfl rfl rfl,Ap (by simp)];by_cases h0:r=-1
 ·subst h0;refine⟨v,?_,?_⟩
  ·have q:=a.one 3 (by simp);simp only[List.getElem_cons_succ,NU]at q;simp[C.f101,a.nil,a.fld,q,Al,results,Af]
  ·have:g.DR (-1)=[g.ix g.Ai]:=by unfold Ac.DR;rw[Rp];rfl
   rw[this];exact f
 ·obtain⟨n,rfl⟩:∃n:Nat,r=(n:Int):=⟨r.toNat,by omega⟩;have b:n<g.AP.length:=by omega
  obtain⟨O,t,H,D,B,rfl,_,e,z,j,_⟩:=I.out;obtain⟨w,p,u⟩:=j n b;have l:=a.one 0 (by simp);simp only[NU]at l;have y:∀i:St,AY 3 t (.int .i64 (n:Int)) i=some (.CB [.int .i64 (g.ix g.AP[n].left:Nat),w,.int .i64 g.AP[n].level],i):=fun i=>by
   have m:n<D.length:=by omega
   rw[e.idx m];rw[Bu m,Ct]at p;rw[p];rfl
  refine⟨w,?_,?_⟩
  ·have d:((n:Int)==-1)=false:=by simp
   simp[C.f101,a.nil,a.fld,l,d,y,Al,results,Af]
  ·have:g.DR (n:Int)=g.AP[n].right.map g.ix:=by unfold Ac.DR;rw[Ox];simp[List.getD,b]
   rw[this];exact RL.sl u
end Go.Am
