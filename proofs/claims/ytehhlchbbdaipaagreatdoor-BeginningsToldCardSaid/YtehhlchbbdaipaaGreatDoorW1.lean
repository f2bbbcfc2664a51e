/- A part of the proof of beginningsTold (merged by a program). -/
import Derived.Test.YtehhlchbbdaipaaGreatDoorD
import Derived.Test.YtehhlchbbdaipaaGreatDoorE
import Derived.Test.YtehhlchbbdaipaaGreatDoorC
import Derived.KernelRfl
namespace Go.Am
open Go
def below (x n:Int):Int:=if n<1 then 0 else if x.tmod n<0 then x.tmod n+n else x.tmod n
theorem YW {x n:Int}(h:1<=n):0<=below x n/\below x n<n:=by
 have h1:=Int.tmod_lt_of_pos x (b:=n) (by omega)
 have h2:-n<x.tmod n:=by
  have:=Int.lt_tmod_of_pos x (b:=n) (by omega)
  omega
 unfold below
 rw[if_neg (by omega)]
 split <;> omega
def Nl (n:Int):Prop:=-9223372036854775808<=n/\n<9223372036854775808
theorem QX {k:Nat}{x n:Int}{st:St}(hn:Nl n):AU E (k+1) 116 [.int .i64 x,.int .i64 n] st=.ret (.int .i64 (below x n),st):=by
 rw[Ap (fn:=C.f116) rfl rfl rfl,Ad (by simp)]
 unfold Nl at hn
 by_cases h1:n<1
 ·simp[C.f116,h1,below,leave,results,AY]
 ·have h0:n≠0:=by omega
  have hr:x.tmod n<n:=Int.tmod_lt_of_pos x (by omega)
  have hl:-n<x.tmod n:=Int.lt_tmod_of_pos x (by omega)
  by_cases h2:x.tmod n<0
  ·simp[C.f116,h1,h0,h2,below,leave,results,AY,wrap64 (n:=x.tmod n+n) (by omega) (by omega)]
  ·simp[C.f116,h1,h0,h2,below,leave,results,AY]
structure CZ (v:AV)(zs:List Int):Prop where
 sl:BI v 1 (zs.map (AV.int .i64))
def Bd (zs:List Int)(a n:Int):Int:=
 if zs=[] then below (IntKind.i64.wrap (a*7919)) n else
  below (IntKind.i64.wrap (below (zs.getD ((a-1).tmod zs.length).toNat 0) 1073741824+IntKind.i64.wrap (IntKind.i64.wrap ((a-1).tdiv zs.length)*IntKind.i64.wrap (7919+(a-1).tmod zs.length)))) n
theorem DX {zs:List Int}{a n:Int}(h:1<=n):0<=Bd zs a n/\Bd zs a n<n:=by
 unfold Bd; split <;> exact YW h
structure Ko (st:St)(o:Nat)(v:AV)(a:Int):Prop where
 at_:AA st.h o=some (.cells 25 2 [v,.int .i64 a] false)
 lo:st.lo<=o
def tick (st:St)(o:Nat)(v:AV)(a:Int):St:={ st with h:=Ab st.h o (.cells 25 2 [v,.int .i64 a] false) }
theorem Ko.tick {st:St}{o:Nat}{v:AV}{a:Int}(h:Ko st o v a)(b:Int):Ko (tick st o v b) o v b:=⟨by simp[Am.tick,AR h.at_],h.lo⟩
theorem KA {k:Nat}{st:St}{o:Nat}{v:AV}{zs:List Int}{a n:Int}(hs:Ko st o v a)(hv:CZ v zs)(ha:0<=a/\a<1000000000)(hn:Nl n) :
 AU E (k+2) 43 [.AO o 0,.int .i64 n] st=.ret (.int .i64 (Bd zs (a+1) n),tick st o v (a+1)):=by
 rw[Ap (fn:=C.f43) rfl rfl rfl,Ad (by simp)]
 have hst:∀st',st'.h=st.h->st'.lo=st.lo->Bc 1 (.AO o 1) (.int .i64 (a+1)) st'=some (.undef,{ st' with h:=Ab st.h o (.cells 25 2 [v,.int .i64 (a+1)] false) }):=fun st' h1 h2=>by
  rw[BX (ty:=25) (sz:=2) (cs:=[v,.int .i64 a]) (ext:=false) (by rw[h1]; exact hs.at_) (by rw[h2]; exact hs.lo) (by simp) rfl rfl,h1]; rfl
 have hf:=hs.at_
 have hf2:∀b,AA (Ab st.h o (.cells 25 2 [v,.int .i64 b] false)) o=some (.cells 25 2 [v,.int .i64 b] false):=fun b=>by rw[AR hs.at_]; simp
 have hr0:∀h x y,AA h o=some (.cells 25 2 [x,y] false)->AP h (.AO o 0)=some x:=fun h x y e=>by simp[AP,e]
 have hr1:∀h x y,AA h o=some (.cells 25 2 [x,y] false)->AP h (.AO o 1)=some y:=fun h x y e=>by simp[AP,e]
 have hw:IntKind.i64.wrap (a+1)=a+1:=wrap64 (by omega) (by omega)
 have hw2:IntKind.i64.wrap a=a:=wrap64 (by omega) (by omega)
 simp[C.f43,hr1 _ _ _ hf,hw,hst,hr0 _ _ _ (hf2 _),hr1 _ _ _ (hf2 _),hv.sl.len]
 by_cases hz:zs=[]
 ·subst hz
  simp[QX hn,Bd,tick,leave,results,AY]
 ·have hlen:(zs.length:Int)≠0:=by simpa using hz
  have hlen':zs.length≠0:=by simpa using hz
  have hpos:0<zs.length:=by omega
  have ht0:0<=a.tmod zs.length:=Int.tmod_nonneg _ (by omega)
  have ht1:a.tmod zs.length<zs.length:=Int.tmod_lt_of_pos _ (by omega)
  obtain⟨i,hi⟩:∃i:Nat,a.tmod zs.length=i:=⟨(a.tmod zs.length).toNat,by omega⟩
  have hil:i<zs.length:=by omega
  have hidx:∀st',Aa 1 v (.int .i64 (i:Int)) st'=some (.BC [.int .i64 zs[i]],st'):=fun st'=>by
   rw[hv.sl.idx (by simpa using hil)]; simp[AV.cells]
  simp[beq_false_of_ne hlen,hz,hlen',hw2,hi,hidx,hr0 _ _ _ (hf2 _),hr1 _ _ _ (hf2 _),hv.sl.len,QX (show Nl 1073741824 by unfold Nl; omega),QX hn,Bd,tick,leave,results,AY,hil]
section
variable {k:Nat}{st:St}{o:Nat}{v:AV}{zs:List Int}{a n:Int}
theorem UN (hs:Ko st o v a)(hv:CZ v zs)(ha:0<=a/\a<1000000000){l u:Int}(hl:0<=l)(hu:l<=u)(hb:u<1000000000) :
 AU E (k+3) 21 [.AO o 0,.int .i64 l,.int .i64 u] st=.ret (.int .i64 (l+Bd zs (a+1) (u-l+1)),tick st o v (a+1)):=by
 rw[Ap (fn:=C.f21) rfl rfl rfl,Ad (by simp)]
 have h1:¬u<l:=by omega
 have hn:Nl (u-l+1):=by unfold Nl; omega
 have hr:=DX (zs:=zs) (a:=a+1) (n:=u-l+1) (by omega)
 simp[C.f21,h1,wrap64 (n:=u-l) (by omega) (by omega),wrap64 (n:=u-l+1) (by omega) (by omega),KA hs hv ha hn,wrap64 (n:=l+Bd zs (a+1) (u-l+1)) (by omega) (by omega),leave,results,AY]
theorem TH (hs:Ko st o v a)(hv:CZ v zs)(ha:0<=a/\a<1000000000)(hn:Nl n) :
 AU E (k+3) 42 [.AO o 0,.int .i64 n] st=.ret (.bool (Bd zs (a+1) n==0),tick st o v (a+1)):=by
 rw[Ap (fn:=C.f42) rfl rfl rfl,Ad (by simp)]
 simp[C.f42,KA hs hv ha hn,leave,results,AY]
structure WI (h:Af)(w:AV)(xs:List AV):Prop where
 len:Bq w=some xs.length
 at_:∀(i:Nat) (hi:i<xs.length) (st:St),(∀p x,AA h p=some x->p≠o->AA st.h p=some x)->∃p,Aa 1 w (.int .i64 i) st=some (p,st)/\AP st.h p=some xs[i]
theorem WX (hs:Ko st o v a)(hv:CZ v zs)(ha:0<=a/\a<1000000000){w:AV}{l:List AV}(hw:WI (o:=o) st.h w l)(h0:0<l.length)(hb:l.length<1000000000)(f:Nat)(fn:Bh)(hc:codeOf f=some fn)(hh:hookOf f=none)(hp:fn.kY=.BG)(hbody:fn.body=C.f45.body∨fn.body=C.f22.body)(hres:fn.results=[.tmp 4]) :
 AU E (k+3) f [.AO o 0,w] st=.ret (l.getD (Bd zs (a+1) l.length).toNat .undef,tick st o v (a+1)):=by
 rw[Ap (fn:=fn) hh hc hp,Ad (by simp),hres]
 have hr:=DX (zs:=zs) (a:=a+1) (n:=l.length) (by omega)
 obtain⟨i,hi⟩:∃i:Nat,Bd zs (a+1) l.length=i:=⟨(Bd zs (a+1) l.length).toNat,by omega⟩
 have hil:i<l.length:=by omega
 obtain⟨p,hp1,hp2⟩:=hw.at_ i hil (tick st o v (a+1)) (fun q x hq hne=>by simp[tick,AR hs.at_,Ne.symm hne,hq])
 have hlen:∀st',BO .slice w st'=some (.int .i64 l.length,st'):=fun st'=>by simp[BO,hw.len]
 have hn:=KA (k:=k) hs hv ha (n:=l.length) (by unfold Nl; omega)
 rcases hbody with h|h
 ·rw[h]; simp[C.f45,hlen,hn,hi,hp1,hp2,leave,results,AY,hil]
 ·rw[h]; simp[C.f22,hlen,hn,hi,hp1,hp2,leave,results,AY,hil]
end
def HB (st:St):Prop:=∀p x,(p,x)∈st.h->p<st.c
theorem Nt {h:Af}{c o:Nat}(hb:∀p x,(p,x)∈h->p<c)(ho:c<=o):AA h o=none:=by
 induction h with
 |nil=>rfl
 |cons q h ih=>
  obtain⟨i,x⟩:=q
  rw[AL,if_neg (by have:=hb i x (by simp); omega)]
  exact ih fun p y hm=>hb p y (by simp[hm])
theorem jY {h:Af}{o:Nat}{y:Ai}(hb:∀p x,(p,x)∈h->p<o):Lx h o y=some ((o,y)::h):=by
 cases h with
 |nil=>rfl
 |cons q h=>
  obtain⟨i,x⟩:=q
  have:=hb i x (by simp)
  simp[Lx,blt_eq,this]
theorem Ac {h:Af}{c lo o:Nat}{y:Ai}(hb:∀p x,(p,x)∈h->p<o):newObj o y ⟨h,c,lo⟩=some ⟨(o,y)::h,c,lo⟩:=by
 unfold newObj; rw[jY hb]
theorem JW {h:Af}{o:Nat}{y:Ai}{p:Nat}{x:Ai}(hm:(p,x)∈Ab h o y):∃x',(p,x')∈h:=by
 induction h with
 |nil=>simp[Ab] at hm
 |cons q h ih=>
  obtain⟨i,z⟩:=q
  simp only[Ab,beq_eq,cond_eq_ite,decide_eq_true_eq] at hm
  by_cases e:i=o
  ·rw[if_pos e] at hm
   rcases List.mem_cons.1 hm with h1|h1
   ·cases h1; exact⟨z,by simp[e]⟩
   ·exact⟨x,by simp[h1]⟩
  ·rw[if_neg e] at hm
   rcases List.mem_cons.1 hm with h1|h1
   ·cases h1; exact⟨x,by simp⟩
   ·obtain⟨x',hx⟩:=ih h1
    exact⟨x',by simp[hx]⟩
theorem Gj {h:Af}{o:Nat}{y:Ai}{p:Nat}{x:Ai}(hm:(p,x)∈Ab h o y):(p=o/\x=y)∨(p,x)∈h:=by
 induction h with
 |nil=>simp[Ab] at hm
 |cons q h ih=>
  obtain⟨i,z⟩:=q
  simp only[Ab,beq_eq,cond_eq_ite,decide_eq_true_eq] at hm
  by_cases e:i=o
  ·rw[if_pos e] at hm
   rcases List.mem_cons.1 hm with h1|h1
   ·cases h1; exact .inl ⟨e,rfl⟩
   ·exact .inr (by simp[h1])
  ·rw[if_neg e] at hm
   rcases List.mem_cons.1 hm with h1|h1
   ·cases h1; exact .inr (by simp)
   ·rcases ih h1 with h2|h2
    ·exact .inl h2
    ·exact .inr (by simp[h2])
theorem Gy {h:Af}{o:Nat}{p:Nat}{x:Ai}(hm:(p,x)∈HY h o):(p,x)∈h:=by
 induction h with
 |nil=>simp[HY] at hm
 |cons q h ih=>
  obtain⟨i,z⟩:=q
  simp only[HY,beq_eq,cond_eq_ite,decide_eq_true_eq] at hm
  by_cases e:i=o
  ·rw[if_pos e] at hm; simp[ih hm]
  ·rw[if_neg e] at hm
   rcases List.mem_cons.1 hm with h1|h1
   ·simp[h1]
   ·simp[ih h1]
structure Rb (st st':St):Prop where
 c:st.c<=st'.c
 lo:st'.lo=st.lo
 hb:HB st'
 Bw:∀p,p<st.c->AA st'.h p=AA st.h p
 mem:∀p x,(p,x)∈st'.h->p<st.c->(p,x)∈st.h
theorem Rb.refl {st:St}(hb:HB st):Rb st st:=⟨Nat.le_refl _,rfl,hb,fun _ _=>rfl,fun _ _ h _=>h⟩
theorem Rb.trans {a b c:St}(h:Rb a b)(k:Rb b c):Rb a c:=⟨Nat.le_trans h.c k.c,k.lo.trans h.lo,k.hb,fun p hp=>(k.Bw p (Nat.lt_of_lt_of_le hp h.c)).trans (h.Bw p hp),fun p x hm hp=>h.mem p x (k.mem p x hm (Nat.lt_of_lt_of_le hp h.c)) hp⟩
def Ah:AV->Option Nat
 |.AQ o _ _ _=>some o
 |_=>none
inductive Fa (h:Af) (ty sz:Nat):AV->List AV->Prop
 |nl:Fa h ty sz .AJ []
 |mt (id:Nat) (ext:Bool) (hf:AA h id=some (.cells ty sz [] ext)):Fa h ty sz (.AQ id 0 0 (some 0)) []
 |ob (id:Nat) (xs:List AV) (h0:xs≠[]) (hc:∀x∈xs,x.cells.length=sz) (hf:AA h id=some (.cells ty sz (xs.flatMap AV.cells) true)):Fa h ty sz (.AQ id 0 xs.length none) xs
theorem Fa.len {h:Af}{ty sz:Nat}{v:AV}{xs:List AV}(H:Fa h ty sz v xs):Bq v=some xs.length:=by cases H <;> rfl
theorem Fa.heap {h h':Af}{ty sz:Nat}{v:AV}{xs:List AV}(H:Fa h ty sz v xs)(e:∀o,Ah v=some o->AA h' o=AA h o):Fa h' ty sz v xs:=by
 cases H with
 |nl=>exact .nl
 |mt id ext hf=>exact .mt id ext ((e id rfl).trans hf)
 |ob id xs h0 hc hf=>exact .ob id xs h0 hc ((e id rfl).trans hf)
theorem BD {sz:Nat}:∀{xs:List AV},(∀x∈xs,x.cells.length=sz)->(xs.flatMap AV.cells).length=xs.length*sz
 |[],_=>by simp
 |x::xs,h=>by
  rw[List.flatMap_cons,List.length_append,h x (by simp),BD fun y hy=>h y (by simp[hy])]
  simp[Nat.succ_mul,Nat.add_comm]
theorem Uo {k f ty sz bytes:Nat}{fn:Bh}{v:AV}{xs:List AV}{st:St}(hh:hookOf f=none)(hc:codeOf f=some fn)(hp:fn.kY=.BG)(hr:fn.results=[.tmp 2])(hbody:fn.body=C.S (C.R 0 [C.o 2 .move [.val (.AJ)]]) (C.S (C.S (C.R 0 [C.m 3 0,C.o 4 (.eq false .slice) [C.t 3,.val (.AJ)]]) (C.C (C.t 4) (C.S (C.R 0 [C.o 2 .move [.val (.AJ)]]) .ret) .skip)) (C.S (C.R 2 [C.o 5 (.buildSlice 0 ty sz 0 [] []) [],C.m 6 0,C.o 7 (.append 1 ty sz bytes) [C.t 5,C.t 6],C.m 2 7]) .ret)))(hsz:0<sz)(hbt:bytes<=1000)(hl:xs.length<=1000)(H:BI v sz xs)(hx:∀x∈xs,x.cells.length=sz)(hb:HB st) :
 ∃w st',AU E (k+1) f [v] st=.ret (w,st')/\Fa st'.h ty sz w xs/\(∀o,Ah w=some o->st.c<=o/\o<st'.c)/\Rb st st':=by
 rw[Ap (fn:=fn) hh hc hp,Ad (by simp),hr,hbody]
 rcases H.out with⟨rfl,rfl⟩|⟨t,rfl⟩
 ·exact⟨.AJ,st,by simp[YA,kN,leave,results,AY],.nl,fun o h=>by (cases h),Rb.refl hb⟩
 ·have hb':∀p x,(p,x)∈st.h->p<st.c:=hb
  have hsz':Nat.blt 0 sz=true:=by rw[blt_eq]; simpa using hsz
  have hz:Nat.beq sz 0=false:=by rw[beq_eq]; simp; omega
  have hss:Nat.beq sz sz=true:=Nat.beq_refl sz
  have hsz0:sz≠0:=by omega
  by_cases hx0:xs=[]
  ·subst hx0
   refine⟨.AQ st.c 0 0 (some 0),{ h:=(st.c,.cells ty sz [] false)::st.h,c:=st.c+2,lo:=st.lo },?_,.mt _ false (by simp[AL]),fun o h=>(by cases h; simp),⟨by simp,rfl,?_,?_,?_⟩⟩
   ·simp[YA,kN,Ay,hsz',BB,beq_eq,Ac hb',BU,lenOf,BH,ble_eq,BK,hz,hsz0,leave,results,AY]
   ·intro p x hm
    rcases List.mem_cons.1 hm with h1|h1
    ·cases h1; simp
    ·have:=hb p x h1; simp; omega
   ·intro p hp; simp[AL,show ¬st.c=p by omega]
   ·intro p x hm hp
    rcases List.mem_cons.1 hm with h1|h1
    ·cases h1; omega
    ·exact h1
  ·have hlen:xs.length≠0:=by simpa using hx0
   have hfl:=BD hx
   have hb2:∀p x,(p,x)∈(st.c,Ai.cells ty sz [] false)::st.h->p<st.c+1:=fun p x hm=>by
    rcases List.mem_cons.1 hm with h1|h1
    ·cases h1; omega
    ·have:=hb p x h1; omega
   have hroom:xs.length*bytes<=room/\xs.length<=room:=by
    have:=Nat.mul_le_mul hl hbt
    unfold room
    constructor <;> omega
   refine⟨.AQ (st.c+1) 0 xs.length none,{ h:=(st.c+1,.cells ty sz (xs.flatMap AV.cells) true)::(st.c,.cells ty sz [] false)::st.h,c:=st.c+2,lo:=st.lo },?_,.ob _ xs hx0 hx (by simp[AL]),fun o h=>(by cases h; simp),⟨by simp,rfl,?_,?_,?_⟩⟩
   ·simp[YA,kN,Ay,hsz',BB,beq_eq,Ac hb',BU,lenOf,BH,ble_eq,BK,hz,hsz0,hss,leave,results,AY,hlen,hx0,Cn,AL,grow,hroom.1,hroom.2,Ac hb2]
   ·intro p x hm
    rcases List.mem_cons.1 hm with h1|h1
    ·cases h1; simp
    ·have:=hb2 p x h1; simp; omega
   ·intro p hp; simp[AL,show ¬st.c=p by omega,show ¬st.c+1=p by omega]
   ·intro p x hm hp
    rcases List.mem_cons.1 hm with h1|h1
    ·cases h1; omega
    ·rcases List.mem_cons.1 h1 with h1|h1
     ·cases h1; omega
     ·exact h1
theorem IB {k:Nat}{v:AV}{l:List Aj}{st:St}(hl:l.length<=1000)(H:BI v 1 (strs l))(hb:HB st) :
 ∃w st',AU E (k+1) 95 [v] st=.ret (w,st')/\Fa st'.h 9 1 w (strs l)/\(∀o,Ah w=some o->st.c<=o/\o<st'.c)/\Rb st st':=
 Uo (fn:=C.f95) (ty:=9) (sz:=1) (bytes:=16) rfl rfl rfl rfl rfl (by omega) (by omega) (by simpa using hl) H (fun x hx=>by obtain⟨s,_,rfl⟩:=List.mem_map.1 hx; rfl) hb
theorem Bt.cells {l:List AV}{rs:List Ba}(h:Bt l rs):∀x∈l,x.cells.length=3:=by
 induction h with
 |nil=>simp
 |cons h _ ih=>
  intro x hx
  rcases List.mem_cons.1 hx with rfl|hx
  ·obtain⟨rv,rfl,_⟩:=h; rfl
  ·exact ih x hx
theorem aL {k:Nat}{v:AV}{l:List AV}{rs:List Ba}{st:St}(hl:l.length<=1000)(H:BI v 3 l)(hr:Bt l rs)(hb:HB st) :
 ∃w st',AU E (k+1) 113 [v] st=.ret (w,st')/\Fa st'.h 68 3 w l/\(∀o,Ah w=some o->st.c<=o/\o<st'.c)/\Rb st st':=
 Uo (fn:=C.f113) (ty:=68) (sz:=3) (bytes:=48) rfl rfl rfl rfl rfl (by omega) (by omega) hl H hr.cells hb
end Go.Am
section
namespace Go.Am
open Go
 mutual
theorem AV.Cx:∀v:AV,AV.beq v v=true
 |.bool b=>by simp[AV.beq]
 |.int k n=>by cases k <;> simp[AV.beq]
 |.str s=>by simp[AV.beq]
 |.Cs=>by simp[AV.beq]
 |.AO o a=>by simp[AV.beq]
 |.BC cs=>by simp[AV.beq,AV.Gs cs]
 |.AJ=>by simp[AV.beq]
 |.list t n a=>by simp[AV.beq,AV.Gs a]
 |.AQ o a l c=>by simp[AV.beq]
 |.Dl=>by simp[AV.beq]
 |.Bv o=>by simp[AV.beq]
 |.GM a b=>by simp[AV.beq,AV.Gs a,AV.Gs b]
 |.fn f a b=>by simp[AV.beq,AV.Gs a,AV.Gs b]
 |.GD=>by simp[AV.beq]
 |.iface t v=>by simp[AV.beq,AV.Cx v]
 |.FV=>by simp[AV.beq]
 |.agg a=>by simp[AV.beq,AV.Gs a]
 |.tuple a=>by simp[AV.beq,AV.Gs a]
theorem AV.Gs:∀l:List AV,AV.Pb l l=true
 |[]=>by simp[AV.Pb]
 |v::l=>by simp[AV.Pb,AV.Cx v,AV.Gs l]
end
section
variable {E:Env}{call:Nat->List AV->St->M (AV × St)}{s d q i:Nat}{k:AK}{args:List II}{ts:TS}{st:St}{js:List Nat}{p:MZ}{l:List (Nat × Cj × List Nat)}
theorem De (hd:d<65535):Dp E call s ((i,⟨some d,none,k,args⟩,js)::l) p ts st=(Ha E call s k (Ul ts args) st).bind fun r=>bif Iw s i p r.2 then Dp E call s l (bif js.isEmpty then p else (js,k,Ul ts args,r.1)::p) (ts.set d r.1) r.2 else .fail:=by
 simp only[Dp,KS,wanted,cond_true,put,M.bind_assoc,M.CE]
 congr 1
 funext r
 cases js with
 |nil=>rfl
 |cons j js=>
  have:(ts.set d r.1).get d=r.1:=by rw[TS.TC _ _ _ _ hd]; simp
  simp only[QC,wanted,cond_true,List.isEmpty_cons,cond_false,this]
theorem Dx:Dp E call s ((i,⟨none,none,k,args⟩,js)::l) p ts st=(Ha E call s k (Ul ts args) st).bind fun r=>bif Iw s i p r.2 then Dp E call s l p ts r.2 else .fail:=by
 simp only[Dp,KS,wanted,cond_true,put,M.bind_assoc,M.CE]
 congr 1
 funext r
 cases js with
 |nil=>rfl
 |cons j js=>simp only[QC,wanted,cond_true]
theorem Cf {s i:Nat}{st:St}:Iw s i [] st=true:=rfl
theorem CV {s i:Nat}{st:St}{js:List Nat}{k:AK}{l:List AV}{v:AV}{p:MZ}:Iw s i ((js,k,l,v)::p) st=((!js.any (Nat.beq i)||(match step s k l st with|some r=>AV.beq v r.1|none=>false))&&Iw s i p st):=rfl
theorem Cv {s:Nat}{st:St}{agg:Option Nat}{x:AV}:step s (.load agg) [x] st=FJ st (Hw st.h agg x):=rfl
theorem Jr {s sz:Nat}{st:St}{x y:AV}:step s (.indexAddr sz) [x,y] st=Aa sz x y st:=rfl
end
theorem Jb {a b c w:AV}:∀{ls:List AV} {i:Nat},(∀x∈ls,x.cells.length=3)->ls[i]?=some (.agg [a,b,c])->(ls.flatMap AV.cells).set (3*i+1) w=(ls.set i (.agg [a,w,c])).flatMap AV.cells
 |[],i,_,h=>by simp at h
 |x::ls,0,hc,h=>by
  simp at h; subst h; simp[AV.cells]
 |x::ls,i+1,hc,h=>by
  have hx:=hc x (by simp)
  have ih:=Jb (w:=w) (ls:=ls) (i:=i) (fun y hy=>hc y (by simp[hy])) (by simpa using h)
  rw[List.flatMap_cons,List.set_append_right _ _ (by omega),hx,show 3*(i+1)+1-3=3*i+1 by omega,ih]
  simp
theorem Gn {a b c:AV}:∀{ls:List AV} {i:Nat},(∀x∈ls,x.cells.length=3)->ls[i]?=some (.agg [a,b,c])->(ls.flatMap AV.cells)[3*i]?=some a/\(ls.flatMap AV.cells)[3*i+1]?=some b/\(ls.flatMap AV.cells)[3*i+2]?=some c
 |[],i,_,h=>by simp at h
 |x::ls,0,hc,h=>by
  simp at h; subst h; simp[AV.cells]
 |x::ls,i+1,hc,h=>by
  have hx:=hc x (by simp)
  have ih:=Gn (ls:=ls) (i:=i) (fun y hy=>hc y (by simp[hy])) (by simpa using h)
  rw[List.flatMap_cons,List.getElem?_append_right (by omega),List.getElem?_append_right (by omega),List.getElem?_append_right (by omega),hx,show 3*(i+1)-3=3*i by omega,show 3*(i+1)+1-3=3*i+1 by omega,show 3*(i+1)+2-3=3*i+2 by omega]
  exact ih
end Go.Am
end
namespace Go.Am
open Go
def Pn (h:Af)(v:AV)(r:Ba):Prop:=∃w,v=.agg [.str r.left,w,.int .i64 r.level]/\Fa h 9 1 w (strs r.right)
def He:AV->Option Nat
 |.agg [_,w,_]=>Ah w
 |_=>none
theorem Pn.heap {h h':Af}{v:AV}{r:Ba}(H:Pn h v r)(e:∀o,He v=some o->AA h' o=AA h o):Pn h' v r:=by
 obtain⟨w,h1,h2⟩:=H; subst h1; exact⟨w,rfl,h2.heap e⟩
theorem Pn.three {h:Af}{v:AV}{r:Ba}(H:Pn h v r):v.cells.length=3:=by
 obtain⟨w,rfl,_⟩:=H; rfl
structure dD (st0:St)(BV:Nat)(rs:List Ba)(vs0:List AV)(i:Nat)(ls:List AV)(st:St):Prop where
 hb:HB st
 c:st0.c<=st.c
 lo:st.lo=st0.lo
 ln:ls.length=rs.length
 rules:AA st.h BV=some (.cells 68 3 (ls.flatMap AV.cells) true)
 three:∀x∈ls,x.cells.length=3
 done:∀j,j<i->∀(hl:j<ls.length) (hr:j<rs.length),Pn st.h ls[j] rs[j]/\∀o,He ls[j]=some o->st0.c<=o/\o<st.c
 todo:∀j,i<=j->∀(hl:j<ls.length) (hv:j<vs0.length),ls[j]=vs0[j]
 inj:∀(j k:Nat) (hj:j<ls.length) (hk:k<ls.length) (o:Nat),j<i->k<i->He ls[j]=some o->He ls[k]=some o->j=k
 Bw:∀p,p<st0.c->p≠BV->AA st.h p=AA st0.h p
 mem:∀p x,(p,x)∈st.h->p<st0.c->p≠BV->(p,x)∈st0.h
theorem RQ {st:St}{BV n i ty:Nat}{cs:List AV}{ext:Bool}(hf:AA st.h BV=some (.cells ty 3 cs ext))(hi:i<n):Aa 3 (.AQ BV 0 n none) (.int .i64 (i:Int)) st=some (.AO BV (3*i),st):=by
 simp[Aa,Bb,hf,blt_eq,beq_eq,hi,Nat.mul_comm]
theorem AB {h:Af}{o off ty sz:Nat}{cs:List AV}{ext:Bool}(hf:AA h o=some (.cells ty sz cs ext)):AP h (.AO o off)=cs[off]?:=by simp[AP,hf]
theorem Fa.one {h:Af}{ty sz:Nat}{v:AV}{xs:List AV}(H:Fa h ty sz v xs):v.isTuple=false/\v.cells=[v]:=by cases H <;> exact⟨rfl,rfl⟩
theorem YI {k:Nat}{st0:St}{gid BV:Nat}{kv:AV}{s:Aj}{rs:List Ba}{vs0:List AV}(hgc:gid<st0.c)(hrc:BV<st0.c)(hgr:gid≠BV)(hlo:st0.lo<=BV)(hg:AA st0.h gid=some (.cells 29 3 [kv,.str s,.AQ BV 0 rs.length none] false))(hv:Bt vs0 rs)(hsm:rs.length<=100)(hsr:∀r∈rs,r.right.length<=1000)(hr0:AA st0.h BV=some (.cells 68 3 (vs0.flatMap AV.cells) true))(hb0:HB st0)(ts:TS)(h1:ts.get 1=.AO gid 0)(h2:ts.get 2=.AO (gid+1) 0)(h14:ts.get 14=.int .i64 rs.length)(h15:ts.get 15=.int .i64 (0:Nat)) :
 (CJ (Ar E (AU E (k+1)) C.f40L0) E.k ts st0).to fun r=>r.1=.exit 0/\r.2.1.get 1=.AO gid 0/\r.2.1.get 2=.AO (gid+1) 0/\∃ls,dD st0 BV rs vs0 rs.length ls r.2.2:=by
 refine Be (fun (i:Nat) ts st=>i<=rs.length/\ts.get 1=.AO gid 0/\ts.get 2=.AO (gid+1) 0/\ts.get 14=.int .i64 rs.length/\ts.get 15=.int .i64 (i:Nat)/\∃ls,dD st0 BV rs vs0 i ls st)
  (fun i=>rs.length-i) ?_ _ 0 _ _ ?_ ?_
 ·rintro i ts st ⟨hi,h1,h2,h14,h15,ls,H⟩
  by_cases Au:i<rs.length
  ·have hil:i<ls.length:=by rw[H.ln]; exact Au
   have hiv:i<vs0.length:=by rw[hv.length]; exact Au
   obtain⟨_,rv,hrv,hsl⟩:=hv.get i Au
   have hli:ls[i]=.agg [.str rs[i].left,rv,.int .i64 rs[i].level]:=by rw[H.todo i (Nat.le_refl _) hil hiv,hrv]
   have hget:=Gn H.three (show ls[i]?=some (.agg [.str rs[i].left,rv,.int .i64 rs[i].level]) by rw[List.getElem?_eq_getElem hil,hli])
   have hgs:AA st.h gid=some (.cells 29 3 [kv,.str s,.AQ BV 0 rs.length none] false):=by rw[H.Bw gid hgc hgr]; exact hg
   obtain⟨w,st1,hcl,hm,hid,hgw⟩:=IB (k:=k) (st:=⟨st.h,st.c,st.lo⟩) (hsr rs[i] (List.getElem_mem Au)) hsl H.hb
   have hst:(⟨st.h,st.c,st.lo⟩:St)=st:=rfl
   rw[hst] at hcl hid hgw
   have hgs1:AA st1.h gid=some (.cells 29 3 [kv,.str s,.AQ BV 0 rs.length none] false):=by rw[hgw.Bw gid (Nat.lt_of_lt_of_le hgc H.c)]; exact hgs
   have hrs1:AA st1.h BV=some (.cells 68 3 (ls.flatMap AV.cells) true):=by rw[hgw.Bw BV (Nat.lt_of_lt_of_le hrc H.c)]; exact H.rules
   have hwt:w.isTuple=false/\w.cells=[w]:=hm.one
   have hlen3:(ls.flatMap AV.cells).length=ls.length*3:=BD H.three
   have hsto:=BX (st:=st1) (off:=3*i+1) (v:=w) hrs1 (by rw[hgw.lo,H.lo]; exact hlo) (by rw[hlen3]; omega) hwt.1 hwt.2
   rw[Jb H.three (show ls[i]?=some (.agg [.str rs[i].left,rv,.int .i64 rs[i].level]) by rw[List.getElem?_eq_getElem hil,hli])] at hsto
   have hload:∀h,AA h gid=some (.cells 29 3 [kv,.str s,.AQ BV 0 rs.length none] false)->AP h (.AO gid 2)=some (.AQ BV 0 rs.length none):=fun h e=>by rw[AB e]; rfl
   simp[C.f40L0,h1,h14,h15,Au,De,Dx,Cf,CV,Cv,beq_eq,hload _ hgs,hload _ hgs1,RQ H.rules Au,AB H.rules,hget.2.1,hcl,AV.Cx,RQ hrs1 Au,hsto,wi i]
   refine⟨i+1,by omega,by omega,h2,by simp,ls.set i (.agg [.str rs[i].left,w,.int .i64 rs[i].level]),?_⟩
   have hfr:∀p,p≠BV->AA (Ab st1.h BV (.cells 68 3 ((ls.set i (.agg [.str rs[i].left,w,.int .i64 rs[i].level])).flatMap AV.cells) true)) p=AA st1.h p:=fun p hp=>by
    rw[AR hrs1,if_neg (Ne.symm hp)]
   refine⟨?_,Nat.le_trans H.c hgw.c,by rw[← H.lo,← hgw.lo],by simp[H.ln],by simp[AR hrs1],?_,?_,?_,?_,?_,?_⟩
   ·intro p x hpm
    obtain⟨x',hx'⟩:=JW hpm
    exact hgw.hb p x' hx'
   ·intro x hx
    rcases List.mem_or_eq_of_mem_set hx with h|h
    ·exact H.three x h
    ·subst h; rfl
   ·intro j hj hl hr
    by_cases e:j=i
    ·subst e
     have:(ls.set j (.agg [.str rs[j].left,w,.int .i64 rs[j].level]))[j]=.agg [.str rs[j].left,w,.int .i64 rs[j].level]:=by simp
     rw[this]
     refine⟨⟨w,rfl,hm.heap fun o ho=>?_⟩,fun o ho=>?_⟩
     ·have:=hid o ho
      exact hfr o (by have:=H.c; omega)
     ·have:=hid o ho
      have:=H.c
      exact (show st0.c<=o/\o<st1.c from⟨by omega,by omega⟩)
    ·have hl':j<ls.length:=by simpa using hl
     have:(ls.set i (.agg [.str rs[i].left,w,.int .i64 rs[i].level]))[j]=ls[j]:=by rw[List.getElem_set_ne (Ne.symm e)]
     rw[this]
     obtain⟨d1,d2⟩:=H.done j (by omega) hl' hr
     refine⟨d1.heap fun o ho=>?_,fun o ho=>⟨(d2 o ho).1,Nat.lt_of_lt_of_le (d2 o ho).2 hgw.c⟩⟩
     have:=d2 o ho
     rw[hfr o (by omega),hgw.Bw o this.2]
   ·intro j hj hl hv'
    have e:j≠i:=by omega
    have hl':j<ls.length:=by simpa using hl
    rw[List.getElem_set_ne (Ne.symm e)]
    exact H.todo j (by omega) hl' hv'
   ·intro j k' hj hk' o hji hki e1 e2
    have hj':j<ls.length:=by simpa using hj
    have hk2:k'<ls.length:=by simpa using hk'
    have hnew:∀(m:Nat) (hm':m<ls.length),m<i->He ls[m]=some o->o<st.c:=fun m hm' hmi e=>((H.done m hmi hm' (by rw[← H.ln]; exact hm')).2 o e).2
    by_cases a1:j=i
    ·by_cases a2:k'=i
     ·omega
     ·subst a1
      rw[List.getElem_set_self] at e1
      rw[List.getElem_set_ne (Ne.symm a2)] at e2
      have h3:=hnew k' hk2 (by omega) e2
      have h4:=hid o e1
      omega
    ·by_cases a2:k'=i
     ·subst a2
      rw[List.getElem_set_self] at e2
      rw[List.getElem_set_ne (Ne.symm a1)] at e1
      have h3:=hnew j hj' (by omega) e1
      have h4:=hid o e2
      omega
     ·rw[List.getElem_set_ne (Ne.symm a1)] at e1
      rw[List.getElem_set_ne (Ne.symm a2)] at e2
      exact H.inj j k' hj' hk2 o (by omega) (by omega) e1 e2
   ·intro p hp hne
    show AA (Ab st1.h BV _) p=_
    rw[hfr p hne,hgw.Bw p (Nat.lt_of_lt_of_le hp H.c),H.Bw p hp hne]
   ·intro p x hm hp hne
    rcases Gj hm with h|h
    ·exact absurd h.1 hne
    ·exact H.mem p x (hgw.mem p x h (Nat.lt_of_lt_of_le hp H.c)) hp hne
  ·simp[C.f40L0,h1,h2,h14,h15,Au]
   have:i=rs.length:=by omega
   subst this
   exact⟨ls,H⟩
 ·show rs.length-0<1000000; omega
 ·refine⟨by omega,h1,h2,h14,h15,vs0,⟨hb0,Nat.le_refl _,rfl,hv.length,hr0,hv.cells,fun j hj=>by omega,fun _ _ _ _=>rfl,fun j k _ _ o hj=>by omega,fun _ _ _=>rfl,fun _ _ h _ _=>h⟩⟩
theorem Cq {st:St}{o ty sz n:Nat}{cs vs:List AV}{ext:Bool}(hf:AA st.h o=some (.cells ty sz cs ext))(hlo:st.lo<=o)(h1:vs.length=n)(h2:cs.length=n) :
 Bc n (.AO o 0) (.agg vs) st=some (.undef,{ st with h:=Ab st.h o (.cells ty sz vs ext) }):=by
 have hb:Nat.blt o st.lo=false:=by rw[blt_eq]; simp; omega
 have hn:Nat.beq vs.length n=true:=by rw[beq_eq]; simpa using h1
 have hl:Nat.ble vs.length cs.length=true:=Nat.ble_eq_true_of_le (by omega)
 have hs:BM cs 0 vs=vs:=by
  unfold BM
  rw[List.take_zero,List.nil_append,Nat.zero_add,List.drop_eq_nil_of_le (by omega),List.append_nil]
 simp[Bc,AV.isTuple,AV.cells,hn,Bl,hb,hf,hl,hs,Cm]
theorem Ae {h:Af}{o n ty sz:Nat}{cs:List AV}{ext:Bool}(hf:AA h o=some (.cells ty sz cs ext))(hn:cs.length=n):AZ h (.AO o 0) n=some cs:=by
 have:Nat.ble cs.length cs.length=true:=Nat.ble_eq_true_of_le (by omega)
 subst hn
 simp[AZ,hf,this]
structure Yl (c0:Nat)(st:St)(g:AX)(kv:AV)(BV:Nat)(ls:List AV):Prop where
 kinds:Fa st.h 9 1 kv (strs g.kinds)
 oI:∀o,Ah kv=some o->c0<=o/\o<BV
 MW:c0<=BV/\BV<st.c
 rules:AA st.h BV=some (.cells 68 3 (ls.flatMap AV.cells) true)
 ln:ls.length=g.rules.length
 each:∀(j:Nat) (hl:j<ls.length) (hr:j<g.rules.length),Pn st.h ls[j] g.rules[j]/\∀o,He ls[j]=some o->BV<o/\o<st.c
 inj:∀(j k:Nat) (hj:j<ls.length) (hk:k<ls.length) (o:Nat),He ls[j]=some o->He ls[k]=some o->j=k
 three:∀x∈ls,x.cells.length=3
theorem aG {k:Nat}{v:AV}{g:AX}{st:St}(hg:BP v g)(hs:g.Small)(h0:0<g.rules.length)(hb:HB st)(hlo:st.lo<=st.c) :
 ∃kv BV ls st',AU E (k+2) 40 [v] st=.ret (.agg [kv,.str g.start,.AQ BV 0 ls.length none],st')/\Yl st.c st' g kv BV ls/\Rb st st':=by
 obtain⟨kv0,rv0,vs0,rfl,hk,hr,hrs⟩:=hg
 rw[Ap (fn:=C.f40) rfl rfl rfl,Ad (by simp)]
 have hm:=hs.many
 have hkn:=hs.kinds
 let hA:Af:=(st.c+1,.cells 29 3 [.AJ,.str [],.AJ] false)::(st.c,.cells 29 3 [kv0,.str g.start,rv0] false)::st.h
 let stA:St:=⟨hA,st.c+2,st.lo⟩
 have hbA:HB stA:=fun p x hx=>by
  show p<st.c+2
  rcases List.mem_cons.1 hx with h|h
  ·cases h; omega
  ·rcases List.mem_cons.1 h with h|h
   ·cases h; omega
   ·have:=hb p x h; omega
 have hoA:∀p,p<st.c->AA hA p=AA st.h p:=fun p hp=>by simp[hA,AL,show ¬st.c+1=p by omega,show ¬st.c=p by omega]
 have hgA:AA hA st.c=some (.cells 29 3 [kv0,.str g.start,rv0] false):=by simp[hA,AL]
 have hqA:AA hA (st.c+1)=some (.cells 29 3 [.AJ,.str [],.AJ] false):=by simp[hA,AL]
 obtain⟨kv,st1,c1,m1,i1,g1⟩:=IB (k:=k) (st:=stA) (show g.kinds.length<=1000 by omega) hk hbA
 have hg1:AA st1.h st.c=some (.cells 29 3 [kv0,.str g.start,rv0] false):=by rw[g1.Bw _ (show st.c<st.c+2 by omega)]; exact hgA
 have hq1:AA st1.h (st.c+1)=some (.cells 29 3 [.AJ,.str [],.AJ] false):=by rw[g1.Bw _ (show st.c+1<st.c+2 by omega)]; exact hqA
 have hlo1:st1.lo<=st.c:=by rw[g1.lo]; exact hlo
 have s1:=BX (st:=st1) (off:=0) (v:=kv) hg1 hlo1 (by simp) m1.one.1 m1.one.2
 let st2:St:={ st1 with h:=Ab st1.h st.c (.cells 29 3 [kv,.str g.start,rv0] false) }
 have hg2:AA st2.h st.c=some (.cells 29 3 [kv,.str g.start,rv0] false):=by simp[st2,AR hg1]
 have ho2:∀p,p≠st.c->AA st2.h p=AA st1.h p:=fun p hp=>by simp[st2,AR hg1,Ne.symm hp]
 have hb2:HB st2:=fun p x hx=>by obtain⟨x',h'⟩:=JW hx; exact g1.hb p x' h'
 obtain⟨rv,st3,c3,m3,i3,g3⟩:=aL (k:=k) (st:=st2) (show vs0.length<=1000 by rw[hrs.length]; omega) hr hrs hb2
 have hc2:st2.c=st1.c:=rfl
 have hcA:stA.c=st.c+2:=rfl
 have hc1:st.c+2<=st1.c:=g1.c
 have hg3:AA st3.h st.c=some (.cells 29 3 [kv,.str g.start,rv0] false):=by rw[g3.Bw _ (by omega)]; exact hg2
 have hlo3:st3.lo<=st.c:=by rw[g3.lo]; exact hlo1
 obtain⟨BV,rfl,hr3⟩:∃BV,rv=.AQ BV 0 vs0.length none/\AA st3.h BV=some (.cells 68 3 (vs0.flatMap AV.cells) true):=by
  have hne:vs0≠[]:=fun e=>by have:=hrs.length; rw[e] at this; simp at this; omega
  generalize hxs:vs0=xs at m3
  cases m3 with
  |nl=>exact absurd hxs hne
  |mt=>exact absurd hxs hne
  |ob id _ _ _ hf=>subst hxs; exact⟨id,rfl,hf⟩
 have hrid:=i3 BV rfl
 have s3:=BX (st:=st3) (off:=2) (v:=.AQ BV 0 vs0.length none) hg3 hlo3 (by simp) rfl rfl
 let st4:St:={ st3 with h:=Ab st3.h st.c (.cells 29 3 [kv,.str g.start,.AQ BV 0 vs0.length none] false) }
 have hg4:AA st4.h st.c=some (.cells 29 3 [kv,.str g.start,.AQ BV 0 vs0.length none] false):=by simp[st4,AR hg3]
 have ho4:∀p,p≠st.c->AA st4.h p=AA st3.h p:=fun p hp=>by simp[st4,AR hg3,Ne.symm hp]
 have hb4:HB st4:=fun p x hx=>by obtain⟨x',h'⟩:=JW hx; exact g3.hb p x' h'
 have hc3:=g3.c
 have hlen:=hrs.length
 have hgrid:st.c≠BV:=by omega
 have loop:=fun ts a b c d=>YI (k:=k) (st0:=st4) (gid:=st.c) (BV:=BV) (kv:=kv) (s:=g.start) (rs:=g.rules) (vs0:=vs0) (by show st.c<st3.c; omega) hrid.2 hgrid (by show st3.lo<=BV; omega)
  (by rw[← hlen]; exact hg4) hrs (by omega) (fun r hr=>by have:=(hs.rules r hr).right; omega) (by rw[ho4 _ (Ne.symm hgrid)]; exact hr3) hb4 ts a b c d
 have hb':∀p x,(p,x)∈st.h->p<st.c:=hb
 have hbB:∀p x,(p,x)∈(st.c,Ai.cells 29 3 [kv0,.str g.start,rv0] false)::st.h->p<st.c+1:=fun p x hx=>by
  rcases List.mem_cons.1 hx with h|h
  ·cases h; omega
  ·have:=hb p x h; omega
 have main:((Ar E (AU E (k+1)) C.f40.body (TS.CY [.agg [kv0,.str g.start,rv0]] 0 .nil) st).bind (leave C.f40.results)).to fun r=>
  ∃ls,r.1=.agg [kv,.str g.start,.AQ BV 0 ls.length none]/\Yl st.c r.2 g kv BV ls/\Rb st r.2:=by
  have rk:∀h x y z,AA h st.c=some (.cells 29 3 [x,y,z] false)->AP h (.AO st.c 0)=some x:=fun h x y z e=>by rw[AB e]; rfl
  have rr:∀h x y z,AA h st.c=some (.cells 29 3 [x,y,z] false)->AP h (.AO st.c 2)=some z:=fun h x y z e=>by rw[AB e]; rfl
  have e1:(⟨hA,st.c+2,st.lo⟩:St)=stA:=rfl
  have hAe:(st.c+1,Ai.cells 29 3 [.AJ,.str [],.AJ] false)::(st.c,Ai.cells 29 3 [kv0,.str g.start,rv0] false)::st.h=hA:=rfl
  have e2:(⟨st1.h,st1.c,st1.lo⟩:St)=st1:=rfl
  have f1:AP stA.h (.AO st.c 0)=some kv0:=rk _ _ _ _ hgA
  have e3:(⟨Ab st1.h st.c (.cells 29 3 [kv,.str g.start,rv0] false),st1.c,st1.lo⟩:St)=st2:=rfl
  have f2:AP st2.h (.AO st.c 2)=some rv0:=rr _ _ _ _ hg2
  have e4:(⟨Ab st3.h st.c (.cells 29 3 [kv,.str g.start,.AQ BV 0 vs0.length none] false),st3.c,st3.lo⟩:St)=st4:=rfl
  have f4:AP st4.h (.AO st.c 2)=some (.AQ BV 0 vs0.length none):=rr _ _ _ _ hg4
  simp only[List.set_cons_zero] at s1
  simp only[List.set_cons_succ,List.set_cons_zero] at s3
  clear_value stA st2 st4 hA
  simp[C.f40,Dr,AV.isTuple,AV.cells,Ac hb',Ac hbB,hAe,e1,f1,c1,s1,e3,f2,c3,s3,e4,f4,BO,Bq]
  refine M.Al (loop _ (by simp) (by simp) (by simp[hlen]) (by simp)) fun r hr=>?_
  obtain⟨e,ts,st5⟩:=r
  obtain⟨rfl,t1,t2,ls,H⟩:=hr
  simp only at t1 t2 H
  have hg5:AA st5.h st.c=some (.cells 29 3 [kv,.str g.start,.AQ BV 0 vs0.length none] false):=by rw[H.Bw _ (by rw[← e4]; show st.c<st3.c; omega) hgrid]; exact hg4
  have hq5:AA st5.h (st.c+1)=some (.cells 29 3 [.AJ,.str [],.AJ] false):=by
   rw[H.Bw _ (by rw[← e4]; show st.c+1<st3.c; omega) (by omega),ho4 _ (by omega),g3.Bw _ (by omega),ho2 _ (by omega)]; exact hq1
  have hlo5:st5.lo<=st.c+1:=by rw[H.lo,← e4]; show st3.lo<=_; omega
  have sq:=Cq (st:=st5) (n:=3) (vs:=[kv,.str g.start,.AQ BV 0 vs0.length none]) hq5 hlo5 rfl rfl
  simp[t1,t2,Ae (n:=3) hg5 rfl,sq,beq_eq,leave,results,AY,Ae (n:=3) (show AA (Ab st5.h (st.c+1) (.cells 29 3 [kv,.str g.start,.AQ BV 0 vs0.length none] false)) (st.c+1)=some (.cells 29 3 [kv,.str g.start,.AQ BV 0 vs0.length none] false) by simp[AR hq5]) rfl]
  have hln:ls.length=vs0.length:=by rw[H.ln,hlen]
  have hc4:st4.c=st3.c:=by rw[← e4]
  have hnq:∀p,p≠st.c+1->AA (Ab st5.h (st.c+1) (.cells 29 3 [kv,.str g.start,.AQ BV 0 vs0.length none] false)) p=AA st5.h p:=fun p hp=>by rw[AR hq5,if_neg (Ne.symm hp)]
  refine⟨ls,by rw[hln],⟨m1.heap fun o ho=>?_,fun o ho=>⟨by have:=(i1 o ho).1; omega,by have:=(i1 o ho).2; omega⟩,⟨by omega,by show BV<st5.c; have:=H.c; omega⟩,?_,H.ln,fun j hl hr=>?_,fun j k' hj hk' o=>H.inj j k' hj hk' o (by rw[← H.ln]; exact hj) (by rw[← H.ln]; exact hk'),H.three⟩,⟨by show st.c<=st5.c; have:=H.c; omega,by show st5.lo=st.lo; rw[H.lo,← e4]; show st3.lo=_; rw[g3.lo,← e3]; show st1.lo=_; rw[g1.lo,← e1],fun p x hx=>?_,fun p hp=>?_,fun p x hx hp=>?_⟩⟩
  ·have:=i1 o ho
   show AA (Ab st5.h (st.c+1) _) o=_
   rw[hnq o (by omega),H.Bw o (by omega) (by omega),ho4 o (by omega),g3.Bw o (by omega),ho2 o (by omega)]
  ·show AA (Ab st5.h (st.c+1) _) BV=_
   rw[hnq BV (by omega)]; exact H.rules
  ·obtain⟨d1,d2⟩:=H.done j (by omega) hl hr
   refine⟨d1.heap fun o ho=>?_,fun o ho=>?_⟩
   ·have:=d2 o ho
    show AA (Ab st5.h (st.c+1) _) o=_
    rw[hnq o (by omega)]
   ·have:=d2 o ho
    exact (show BV<o/\o<st5.c from⟨by omega,by omega⟩)
  ·obtain⟨x',h'⟩:=JW hx
   exact H.hb p x' h'
  ·show AA (Ab st5.h (st.c+1) _) p=_
   rw[hnq p (by omega),H.Bw p (by omega) (by omega),ho4 p (by omega),g3.Bw p (by omega),ho2 p (by omega),g1.Bw p (by omega),← e1]
   exact hoA p hp
  ·rcases Gj hx with h|h
   ·omega
   have h:=H.mem p x h (by omega) (by omega)
   rw[← e4] at h
   rcases Gj h with h|h
   ·omega
   have h:=g3.mem p x h (by omega)
   rw[← e3] at h
   rcases Gj h with h|h
   ·omega
   have h:=g1.mem p x h (by omega)
   rw[← e1] at h
   rw[← hAe] at h
   rcases List.mem_cons.1 h with h|h
   ·cases h; omega
   ·rcases List.mem_cons.1 h with h|h
    ·cases h; omega
    ·exact h
 obtain⟨⟨v',st'⟩,hr1,ls,rfl,h2,h3⟩:=main
 exact⟨kv,BV,ls,st',hr1,h2,h3⟩
theorem Fe {c:Nat}{h:Af}{n:Nat}{v:AV}(hv:v.Bw c=true):Bp c h (n+1) v=some v:=by cases v <;> (unfold Bp; simp[hv])
theorem DY {c:Nat}{h:Af}{n:Nat}:∀{l:List AV},AV.CL c l=true->CP (Bp c h (n+1)) l=some l
 |[],_=>rfl
 |v::l,hl=>by
  simp only[AV.CL,Bool.and_eq_true] at hl
  simp[CP,Fe hl.1,DY hl.2]
theorem Dq (c:Nat)(l:List Aj):AV.CL c (strs l)=true:=by
 induction l with
 |nil=>rfl
 |cons s l ih=>simpa [strs,AV.CL,AV.Bw] using ih
theorem Qf {f:AV->Option AV}:∀{a b a' b':List AV},CP f a=some a'->CP f b=some b'->CP f (a++b)=some (a'++b')
 |[],b,a',b',h,k=>by cases h; exact k
 |v::l,b,a',b',h,k=>by
  simp only[CP] at h
  split at h
  ·rename_i v' hv
   split at h
   ·rename_i l' hl
    cases h
    simp[CP,hv,Qf hl k]
   ·cases h
  ·cases h
theorem ZF {c:Nat}{h:Af}{n:Nat}{l l':List AV}(ho:AV.CL c l=true)(ht:CP (Bp c h n) l=some l')(hn:0<n):l'=l:=by
 obtain⟨m,rfl⟩:∃m,n=m+1:=⟨n-1,by omega⟩
 rw[DY ho] at ht
 exact (Option.some.inj ht).symm
theorem lH {c:Nat}{h:Af}{n:Nat}{cs cs':List AV}(ht:CP (Bp c h n) cs=some cs')(hn:0<n):Bp c h (n+1) (.agg cs)=some (.agg cs'):=by
 unfold Bp
 cases ho:(AV.agg cs).Bw c with
 |true=>
  have:=ZF (by simpa [AV.Bw] using ho) ht hn
  rw[this]; rfl
 |false=>simp[ht]
def OZ (c:Nat)(h:Af)(w:AV)(l:List Aj):Prop:=(w=.AJ/\l=[])∨∃id cap ty ext,w=.AQ id 0 l.length cap/\c<id/\AA h id=some (.cells ty 1 (strs l) ext)
theorem OZ.frame {c:Nat}{h h':Af}{w:AV}{l:List Aj}(H:OZ c h w l)(hf:∀p,c<p->AA h' p=AA h p):OZ c h' w l:=by
 rcases H with h0|⟨id,cap,ty,ext,h1,h2,h3⟩
 ·exact .inl h0
 ·exact .inr ⟨id,cap,ty,ext,h1,h2,(hf id h2).trans h3⟩
theorem IZ:∀(l:List AV),rows 1 l.length l=l
 |[]=>rfl
 |v::l=>by simp[rows,IZ l]
theorem FN {c:Nat}{h:Af}{n o off len sz ty:Nat}{cap:Option Nat}{cs cs':List AV}{ext:Bool}(ho:c<=o)(hf:AA h o=some (.cells ty sz cs ext))(hsz:0<sz)(hl:off+len*sz<=cs.length)(ht:CP (Bp c h n) ((cs.drop off).take (len*sz))=some cs') :
 Bp c h (n+1) (.AQ o off len cap)=some (.list (match cap with|some c=>Nat.beq c len|none=>false) sz (rows sz len cs')):=by
 unfold Bp
 have h1:(AV.AQ o off len cap).Bw c=false:=by simp[AV.Bw,blt_eq]; omega
 have h2:(Nat.blt 0 sz&&Nat.ble (off+len*sz) cs.length)=true:=by rw[blt_eq,ble_eq]; simp[hsz,hl]
 simp only[h1,hf,h2,ht,cond_true,cond_false]
 cases cap <;> rfl
theorem GI (l:List Aj):(strs l).flatMap AV.cells=strs l:=by
 unfold strs
 induction l with
 |nil=>rfl
 |cons s l ih=>simpa [AV.cells] using ih
theorem OZ.of {c:Nat}{h:Af}{w:AV}{l:List Aj}(H:Fa h 9 1 w (strs l))(hc:∀o,Ah w=some o->c<o):OZ c h w l:=by
 generalize hxs:strs l=xs at H
 have hl:l.length=xs.length:=by rw[← hxs]; simp
 cases H with
 |nl=>exact .inl ⟨rfl,by simpa using hl⟩
 |mt id ext hf=>exact .inr ⟨id,_,9,ext,by rw[hl]; rfl,hc id rfl,by rw[hxs]; exact hf⟩
 |ob id xs h0 h1 hf=>exact .inr ⟨id,_,9,true,by rw[hl],hc id rfl,by rw[hxs,hf,← hxs,GI]⟩
theorem OZ.Bp {c:Nat}{h:Af}{w:AV}{l:List Aj}(H:OZ c h w l):∃w',BI w' 1 (strs l)/\∀n,2<=n->Bp c h n w=some w':=by
 rcases H with⟨rfl,rfl⟩|⟨id,cap,ty,ext,rfl,hc,hf⟩
 ·exact⟨.AJ,⟨.inl ⟨rfl,rfl⟩⟩,fun n hn=>by obtain⟨m,rfl⟩:∃m,n=m+1:=⟨n-1,by omega⟩; exact Fe rfl⟩
 ·refine⟨.list (match cap with|some c=>Nat.beq c l.length|none=>false) 1 (strs l),⟨.inr ⟨_,rfl⟩⟩,fun n hn=>?_⟩
  obtain⟨m,rfl⟩:∃m,n=m+2:=⟨n-2,by omega⟩
  have hl:(strs l).length=l.length:=DZ l
  have ht:CP (Am.Bp c h (m+1)) (((strs l).drop 0).take (l.length*1))=some (strs l):=by
   rw[List.drop_zero,Nat.mul_one,← hl,List.take_length]; exact DY (Dq c l)
  rw[FN (Nat.le_of_lt hc) hf (by omega) (by omega) ht,← hl,IZ]
def Kn (c:Nat)(h:Af)(v:AV)(r:Ba):Prop:=∃w,v=.agg [.str r.left,w,.int .i64 r.level]/\OZ c h w r.right
inductive CU (c:Nat) (h:Af):List AV->List Ba->Prop
 |nil:CU c h [] []
 |cons {v:AV} {r:Ba} {l:List AV} {rs:List Ba} (a:Kn c h v r) (t:CU c h l rs):CU c h (v::l) (r::rs)
theorem CU.Lr {c:Nat}{h:Af}:∀{l:List AV} {rs:List Ba},l.length=rs.length->(∀(j:Nat) (hl:j<l.length) (hr:j<rs.length),Kn c h l[j] rs[j])->CU c h l rs
 |[],[],_,_=>.nil
 |v::l,r::rs,hn,H=>.cons (H 0 (by simp) (by simp)) (CU.Lr (by simpa using hn) fun j hl hr=>H (j+1) (by simpa using hl) (by simpa using hr))
 |[],r::rs,hn,_=>by simp at hn
 |v::l,[],hn,_=>by simp at hn
theorem CU.frame {c:Nat}{h h':Af}{l:List AV}{rs:List Ba}(H:CU c h l rs)(hf:∀p,c<p->AA h' p=AA h p):CU c h' l rs:=by
 induction H with
 |nil=>exact .nil
 |cons a t ih=>obtain⟨w,h1,h2⟩:=a; exact .cons ⟨w,h1,h2.frame hf⟩ ih
theorem CU.length {c:Nat}{h:Af}{l:List AV}{rs:List Ba}(H:CU c h l rs):l.length=rs.length:=by
 induction H with
 |nil=>rfl
 |cons _ _ ih=>simp[ih]
theorem CU.three {c:Nat}{h:Af}{l:List AV}{rs:List Ba}(H:CU c h l rs):∀x∈l,x.cells.length=3:=by
 induction H with
 |nil=>simp
 |cons a t ih=>
  intro x hx
  rcases List.mem_cons.1 hx with rfl|hx
  ·obtain⟨w,rfl,_⟩:=a; rfl
  ·exact ih x hx
theorem CU.CP {c:Nat}{h:Af}{l:List AV}{rs:List Ba}(H:CU c h l rs):∃l',Bt l' rs/\rows 3 l'.length (l'.flatMap AV.cells)=l'/\l'.length=l.length/\∀n,2<=n->CP (Bp c h n) (l.flatMap AV.cells)=some (l'.flatMap AV.cells):=by
 induction H with
 |nil=>exact⟨[],.nil,rfl,rfl,fun n _=>rfl⟩
 |cons a t ih=>
  rename_i v r l rs
  obtain⟨l',h1,h2,hl,h3⟩:=ih
  obtain⟨w,rfl,hw⟩:=a
  obtain⟨w',k1,k2⟩:=hw.Bp
  refine⟨.agg [.str r.left,w',.int .i64 r.level]::l',.cons ⟨w',rfl,k1⟩ h1,?_,by simp[hl],fun n hn=>?_⟩
  ·simp only[List.length_cons,rows,List.flatMap_cons,AV.cells]
   simp[beq_eq,h2]
  ·rw[List.flatMap_cons,List.flatMap_cons]
   refine Qf ?_ (h3 n hn)
   obtain⟨m,rfl⟩:∃m,n=m+1:=⟨n-1,by omega⟩
   simp[AV.cells,Am.CP,Fe (show (AV.str r.left).Bw c=true from rfl),k2 (m+1) hn,Fe (show (AV.int .i64 r.level).Bw c=true from rfl)]
theorem QO {c:Nat}{h:Af}{kv rv:AV}{g:AX}{ls:List AV}(hk:OZ c h kv g.kinds)(hr:CU c h ls g.rules)(hrv:(rv=.AJ/\g.rules=[])∨∃o cap ty ext rest,rv=.AQ o 0 ls.length cap/\c<o/\AA h o=some (.cells ty 3 (ls.flatMap AV.cells++rest) ext))(n:Nat)(hn:6<=n) :
 ∃v,Bp c h n (.agg [kv,.str g.start,rv])=some v/\BP v g:=by
 obtain⟨m,rfl⟩:∃m,n=m+6:=⟨n-6,by omega⟩
 obtain⟨kw,k1,k2⟩:=hk.Bp
 obtain⟨l',h1,h2,hl,h3⟩:=hr.CP
 have hrw:∃rw',Bp c h (m+5) rv=some rw'/\BI rw' 3 l':=by
  rcases hrv with⟨rfl,e⟩|⟨o,cap,ty,ext,rest,rfl,ho,hf⟩
  ·rw[e] at h1; cases h1
   exact⟨.AJ,Fe rfl,⟨.inl ⟨rfl,rfl⟩⟩⟩
  ·have hlen:(ls.flatMap AV.cells).length=ls.length*3:=by
    exact BD hr.three
   refine⟨_,FN (n:=m+4) (Nat.le_of_lt ho) hf (by omega) (by simp[hlen]) (cs':=l'.flatMap AV.cells) ?_,⟨.inr ⟨_,by rw[← hl,h2]⟩⟩⟩
   rw[List.drop_zero,List.take_append_of_le_length (by omega),List.take_of_length_le (by omega)]
   exact h3 (m+4) (by omega)
 obtain⟨rw',r1,r2⟩:=hrw
 refine⟨.agg [kw,.str g.start,rw'],?_,kw,rw',l',rfl,k1,r2,h1⟩
 exact lH (by simp[CP,k2 (m+5) (by omega),Fe (show (AV.str g.start).Bw c=true from rfl),r1]) (by omega)
structure CW (c o:Nat)(vs:AV)(a:Int)(st0 st:St):Prop where
 hb:HB st
 lo:st.lo=st0.lo
 Np:st0.lo<=o
 oc:o<c
 GX:AA st.h o=some (.cells 25 2 [vs,.int .i64 a] false)
 Bw:∀p,p<c->p≠o->AA st.h p=AA st0.h p
 mem:∀p x,(p,x)∈st.h->p<c->(p,x)∈st0.h∨(p=o/\∃b:Int,x=.cells 25 2 [vs,.int .i64 b] false)
theorem CW.st {c o:Nat}{vs:AV}{a:Int}{st0 st:St}(H:CW c o vs a st0 st):Ko st o vs a:=⟨H.GX,by rw[H.lo]; exact H.Np⟩
theorem CW.cons {c o:Nat}{vs:AV}{a:Int}{st0 st:St}(H:CW c o vs a st0 st){p:Nat}{x:Ai}{n:Nat}(hp:c<=p)(hn:p<n)(hc:st.c<=n):CW c o vs a st0 ⟨(p,x)::st.h,n,st.lo⟩ where
 hb:=fun q y hq=>by
  rcases List.mem_cons.1 hq with h|h
  ·cases h; exact hn
  ·exact Nat.lt_of_lt_of_le (H.hb q y h) hc
 lo:=H.lo
 Np:=H.Np
 oc:=H.oc
 GX:=by have:=H.oc; simp[AL,show ¬p=o by omega,H.GX]
 Bw:=fun q hq hne=>by simp[AL,show ¬p=q by omega,H.Bw q hq hne]
 mem:=fun q y hq hc=>by
  rcases List.mem_cons.1 hq with h|h
  ·cases h; omega
  ·exact H.mem q y h hc
theorem CW.Ab {c o:Nat}{vs:AV}{a:Int}{st0 st:St}(H:CW c o vs a st0 st){p:Nat}{x y:Ai}(hp:c<=p)(hf:AA st.h p=some y):CW c o vs a st0 { st with h:=Ab st.h p x } where
 hb:=fun q z hq=>by obtain⟨z',h⟩:=JW hq; exact H.hb q z' h
 lo:=H.lo
 Np:=H.Np
 oc:=H.oc
 GX:=by have:=H.oc; simp[AR hf,show ¬p=o by omega,H.GX]
 Bw:=fun q hq hne=>by simp[AR hf,show ¬p=q by omega,H.Bw q hq hne]
 mem:=fun q z hq hc=>by
  rcases Gj hq with h|h
  ·omega
  ·exact H.mem q z h hc
theorem CW.HY {c o:Nat}{vs:AV}{a:Int}{st0 st:St}(H:CW c o vs a st0 st){p:Nat}(hp:c<=p):CW c o vs a st0 { st with h:=HY st.h p } where
 hb:=fun q z hq=>H.hb q z (Gy hq)
 lo:=H.lo
 Np:=H.Np
 oc:=H.oc
 GX:=by have:=H.oc; simp[Dw,show ¬p=o by omega,H.GX]
 Bw:=fun q hq hne=>by simp[Dw,show ¬p=q by omega,H.Bw q hq hne]
 mem:=fun q z hq hc=>H.mem q z (Gy hq) hc
theorem CW.tick {c o:Nat}{vs:AV}{a:Int}{st0 st:St}(H:CW c o vs a st0 st)(b:Int):CW c o vs b st0 (tick st o vs b) where
 hb:=fun q z hq=>by obtain⟨z',h⟩:=JW hq; exact H.hb q z' h
 lo:=H.lo
 Np:=H.Np
 oc:=H.oc
 GX:=by simp[Am.tick,AR H.GX]
 Bw:=fun q hq hne=>by simp[Am.tick,AR H.GX,Ne.symm hne,H.Bw q hq hne]
 mem:=fun q z hq hc=>by
  rcases Gj hq with h|h
  ·exact .inr ⟨h.1,b,h.2⟩
  ·exact H.mem q z h hc
theorem DK {st:St}{o:Nat}{vs:AV}{a b:Int}(h:AA st.h o=some (.cells 25 2 [vs,.int .i64 a] false)){p:Nat}(hp:p≠o):AA (tick st o vs b).h p=AA st.h p:=by simp[tick,AR h,Ne.symm hp]
structure GS (c o:Nat)(vs:AV)(a:Int)(st0 st:St)(g:AX)(kv:AV)(BV:Nat)(ls:List AV):Prop where
 k:CW c o vs a st0 st
 cc:c+2<=st.c
 Nv:AA st.h (c+1)=some (.cells 29 3 [kv,.str g.start,.AQ BV 0 ls.length none] false)
 bF:AA st.h c=some (.cells 29 3 [.AJ,.str [],.AJ] false)
 m:Yl (c+2) st g kv BV ls
structure GF (c o:Nat)(vs:AV)(a:Int)(st0 st:St)(g:AX):Prop where
 k:CW c o vs a st0 st
 cc:c+2<=st.c
 bF:AA st.h c=some (.cells 29 3 [.AJ,.str [],.AJ] false)
 small:g.Small
 Nv:∃kv rv ls,AA st.h (c+1)=some (.cells 29 3 [kv,.str g.start,rv] false)/\OZ c st.h kv g.kinds/\CU c st.h ls g.rules /\
  ((rv=.AJ/\g.rules=[])∨∃p cap ty ext rest,rv=.AQ p 0 ls.length cap/\c<p/\AA st.h p=some (.cells ty 3 (ls.flatMap AV.cells++rest) ext))
theorem Kn.of {c:Nat}{h:Af}{v:AV}{r:Ba}(H:Pn h v r)(hc:∀o,He v=some o->c<o):Kn c h v r:=by
 obtain⟨w,rfl,h2⟩:=H
 exact⟨w,rfl,OZ.of h2 hc⟩
theorem Yl.th {c c0:Nat}{st:St}{g:AX}{kv:AV}{BV:Nat}{ls:List AV}(H:Yl c0 st g kv BV ls)(hc:c<c0):CU c st.h ls g.rules:=
 CU.Lr H.ln fun j hl hr=>Kn.of (H.each j hl hr).1 fun o ho=>by have:=((H.each j hl hr).2 o ho).1; have:=H.MW.1; omega
theorem GS.fin {c o:Nat}{vs:AV}{a:Int}{st0 st:St}{g:AX}{kv:AV}{BV:Nat}{ls:List AV}(H:GS c o vs a st0 st g kv BV ls)(hs:g.Small):GF c o vs a st0 st g:=
 ⟨H.k,H.cc,H.bF,hs,kv,_,ls,H.Nv,OZ.of H.m.kinds fun o ho=>by have:=(H.m.oI o ho).1; omega,H.m.th (by omega),.inr ⟨BV,none,68,true,[],rfl,by have:=H.m.MW.1; omega,by rw[List.append_nil]; exact H.m.rules⟩⟩
theorem GS.OE {c o:Nat}{vs:AV}{a:Int}{st0 st:St}{g:AX}{kv:AV}{BV:Nat}{ls:List AV}(H:GS c o vs a st0 st g kv BV ls){h':Af}(hf:∀p,Ah kv=some p->AA h' p=AA st.h p):OZ c h' kv g.kinds:=
 OZ.of (H.m.kinds.heap hf) fun p hp=>by have:=(H.m.oI p hp).1; omega
theorem GS.ZL {c o:Nat}{vs:AV}{a:Int}{st0 st:St}{g:AX}{kv:AV}{BV:Nat}{ls:List AV}(H:GS c o vs a st0 st g kv BV ls){h':Af}{j:Nat}(hl:j<ls.length)(hr:j<g.rules.length)(hf:∀p,He ls[j]=some p->AA h' p=AA st.h p):Kn c h' ls[j] g.rules[j]:=
 Kn.of ((H.m.each j hl hr).1.heap hf) fun p hp=>by have:=((H.m.each j hl hr).2 p hp).1; have:=H.m.MW.1; omega
theorem GS.Oo {c o:Nat}{vs:AV}{a:Int}{st0 st:St}{g:AX}{kv:AV}{BV:Nat}{ls:List AV}(H:GS c o vs a st0 st g kv BV ls){h':Af}(hf:∀p,BV<p->p<st.c->AA h' p=AA st.h p):CU c h' ls g.rules:=
 CU.Lr H.m.ln fun j hl hr=>H.ZL hl hr fun p hp=>hf p ((H.m.each j hl hr).2 p hp).1 ((H.m.each j hl hr).2 p hp).2
theorem GS.PG {c o:Nat}{vs:AV}{a:Int}{st0 st:St}{g:AX}{kv:AV}{BV:Nat}{ls:List AV}(H:GS c o vs a st0 st g kv BV ls){p:Nat}(hp:Ah kv=some p):c+2<=p/\p<BV/\BV<st.c:=⟨(H.m.oI p hp).1,(H.m.oI p hp).2,H.m.MW.2⟩
theorem IQ {h:Af}{id ty o:Nat}{xs:List AV}{ext:Bool}{cap:Option Nat}(hf:AA h id=some (.cells ty 1 xs ext))(ho:id≠o):WI (o:=o) h (.AQ id 0 xs.length cap) xs where
 len:=rfl
 at_:=fun i hi st hs=>by
  have h2:=hs id _ hf ho
  refine⟨.AO id i,?_,?_⟩
  ·simp[Aa,Bb,h2,blt_eq,hi,beq_eq]
  ·rw[AB h2,List.getElem?_eq_getElem hi]
theorem PE {k:Nat}{st:St}{o:Nat}{v:AV}{zs:List Int}{a:Int}(hs:Ko st o v a)(hv:CZ v zs)(ha:0<=a/\a<1000000000){w:AV}{l:List AV}(hw:WI (o:=o) st.h w l)(h0:0<l.length)(hb:l.length<1000000000) :
 AU E (k+3) 22 [.AO o 0,w] st=.ret (l.getD (Bd zs (a+1) l.length).toNat .undef,tick st o v (a+1)):=
 WX hs hv ha hw h0 hb 22 C.f22 rfl rfl rfl (.inr rfl) rfl
theorem iY {k:Nat}{st:St}{o:Nat}{v:AV}{zs:List Int}{a:Int}(hs:Ko st o v a)(hv:CZ v zs)(ha:0<=a/\a<1000000000){w:AV}{l:List AV}(hw:WI (o:=o) st.h w l)(h0:0<l.length)(hb:l.length<1000000000) :
 AU E (k+3) 45 [.AO o 0,w] st=.ret (l.getD (Bd zs (a+1) l.length).toNat .undef,tick st o v (a+1)):=
 WX hs hv ha hw h0 hb 45 C.f45 rfl rfl rfl (.inl rfl) rfl
theorem IW {zs:List Int}{a:Int}{l:List AV}(h0:0<l.length):l.getD (Bd zs (a+1) l.length).toNat .undef∈l:=by
 have hr:=DX (zs:=zs) (a:=a+1) (n:=l.length) (by omega)
 have:(Bd zs (a+1) l.length).toNat<l.length:=by omega
 rw[List.getD_eq_getElem?_getD,List.getElem?_eq_getElem this]
 exact List.getElem_mem this
section
variable {c o:Nat}{vs:AV}{zs:List Int}{a:Int}{st0 st:St}{g:AX}{kv:AV}{BV:Nat}{ls:List AV}{ts:TS}{k:Nat}
def Gg (c o:Nat)(vs:AV)(a:Int)(st0:St)(ts:TS)(r:Hd × TS × St):Prop:=
 r.1=.normal/\r.2.1.get 2=ts.get 2/\r.2.1.get 3=ts.get 3/\∃g m,0<=m/\m<=5/\GF c o vs (a+m) st0 r.2.2 g
theorem tX (hv:CZ vs zs)(ha:0<=a/\a<100000)(H:GS c o vs a st0 st g kv BV ls)(hs:g.Small)(h0:ts.get 0=.AO o 0)(h3:ts.get 3=.AO (c+1) 0) :
 (Ar E (AU E (k+3)) C.f6L13 ts st).to (Gg c o vs a st0 ts):=by
 let xs:List AV:=[.str [97],.str [],.str [120],.str [116]]
 have hoc:=H.k.oc
 have hcc:=H.cc
 have K1:=H.k.cons (p:=st.c) (x:=.cells 9 1 xs false) (n:=st.c+1) (by omega) (by omega) (by omega)
 have hf1:AA ((st.c,Ai.cells 9 1 xs false)::st.h) st.c=some (.cells 9 1 xs false):=by simp[AL]
 have hsome:=PE (k:=k) K1.st hv (by omega) (IQ (cap:=some 4) hf1 (show st.c≠o by omega)) (by simp[xs]) (by simp[xs])
 obtain⟨s,hsx,hs50⟩:∃s:Aj,xs.getD (Bd zs (a+1) xs.length).toNat .undef=.str s/\s.length<=50:=by
  have:=IW (zs:=zs) (a:=a) (l:=xs) (by simp[xs])
  generalize xs.getD (Bd zs (a+1) xs.length).toNat .undef=x at this
  simp[xs] at this
  rcases this with rfl|rfl|rfl|rfl <;> exact⟨_,rfl,by simp⟩
 rw[hsx] at hsome
 have K2:=K1.tick (a+1)
 have hg2:AA (tick ⟨(st.c,Ai.cells 9 1 xs false)::st.h,st.c+1,st.lo⟩ o vs (a+1)).h (c+1)=some (.cells 29 3 [kv,.str g.start,.AQ BV 0 ls.length none] false):=by
  rw[DK K1.GX (by omega)]; simp[AL,show ¬st.c=c+1 by omega,H.Nv]
 have hsto:=BX (off:=1) (v:=.str s) hg2 (by rw[K2.lo]; have:=H.k.Np; omega) (by simp) rfl rfl
 have hb':∀p x,(p,x)∈st.h->p<st.c:=H.k.hb
 simp only[List.set_cons_succ,List.set_cons_zero] at hsto
 simp[xs] at hsome hsto
 simp[C.f6L13,h0,h3,Ay,blt_eq,beq_eq,ble_eq,BB,BM,AV.isTuple,AV.cells,Ac hb',hsome,hsto,Gg]
 have K3:=K2.Ab (p:=c+1) (x:=.cells 29 3 [kv,.str s,.AQ BV 0 ls.length none] false) (by omega) hg2
 have hfr:∀p,p<st.c->p≠o->p≠c+1->AA (Ab (tick ⟨(st.c,.cells 9 1 xs false)::st.h,st.c+1,st.lo⟩ o vs (a+1)).h (c+1) (.cells 29 3 [kv,.str s,.AQ BV 0 ls.length none] false)) p=AA st.h p:=fun p h1 h2 h3=>by
  rw[AR hg2,if_neg (Ne.symm h3),DK K1.GX h2]
  simp[AL,show ¬st.c=p by omega]
 have hrid:=H.m.MW
 refine⟨{ g with start:=s },1,by omega,by omega,K3,by show c+2<=st.c+1; omega,?_,⟨hs.kinds,hs.names,hs50,hs.many,hs.rules⟩,kv,_,ls,by show AA (Ab _ _ _) (c+1)=_; rw[AR hg2,if_pos rfl],H.OE fun p hp=>?_,H.Oo fun p h1 h2=>?_,.inr ⟨BV,none,68,true,[],rfl,by omega,?_⟩⟩
 ·show AA (Ab _ _ _) c=_
  rw[hfr c (by omega) (by omega) (by omega)]; exact H.bF
 ·have:=H.PG hp
  exact hfr p (by omega) (by omega) (by omega)
 ·exact hfr p (by omega) (by omega) (by omega)
 ·show AA (Ab _ _ _) BV=_
  rw[hfr BV (by omega) (by omega) (by omega),List.append_nil]; exact H.m.rules
end
theorem PN {a b c w:AV}:∀{ls:List AV} {i:Nat},(∀x∈ls,x.cells.length=3)->ls[i]?=some (.agg [a,b,c])->(ls.flatMap AV.cells).set (3*i) w=(ls.set i (.agg [w,b,c])).flatMap AV.cells
 |[],i,_,h=>by simp at h
 |x::ls,0,hc,h=>by simp at h; subst h; simp[AV.cells]
 |x::ls,i+1,hc,h=>by
  have hx:=hc x (by simp)
  have ih:=PN (w:=w) (ls:=ls) (i:=i) (fun y hy=>hc y (by simp[hy])) (by simpa using h)
  rw[List.flatMap_cons,List.set_append_right _ _ (by omega),hx,show 3*(i+1)-3=3*i by omega,ih]
  simp
theorem PM {a b c w:AV}:∀{ls:List AV} {i:Nat},(∀x∈ls,x.cells.length=3)->ls[i]?=some (.agg [a,b,c])->(ls.flatMap AV.cells).set (3*i+2) w=(ls.set i (.agg [a,b,w])).flatMap AV.cells
 |[],i,_,h=>by simp at h
 |x::ls,0,hc,h=>by simp at h; subst h; simp[AV.cells]
 |x::ls,i+1,hc,h=>by
  have hx:=hc x (by simp)
  have ih:=PM (w:=w) (ls:=ls) (i:=i) (fun y hy=>hc y (by simp[hy])) (by simpa using h)
  rw[List.flatMap_cons,List.set_append_right _ _ (by omega),hx,show 3*(i+1)+2-3=3*i+2 by omega,ih]
  simp
section
variable {c o:Nat}{vs:AV}{zs:List Int}{a:Int}{st0 st:St}{g:AX}{kv:AV}{BV:Nat}{ls:List AV}{ts:TS}{k:Nat}
theorem GS.Rc (H:GS c o vs a st0 st g kv BV ls)(hs:g.Small){a':Int}{st':St}{i:Nat}(hi:i<ls.length){v':AV}{r':Ba}(K':CW c o vs a' st0 st')(cc:c+2<=st'.c)(hg:AA st'.h (c+1)=some (.cells 29 3 [kv,.str g.start,.AQ BV 0 ls.length none] false))(hq:AA st'.h c=AA st.h c)(hr:AA st'.h BV=some (.cells 68 3 ((ls.set i v').flatMap AV.cells) true))(hk:∀p,Ah kv=some p->AA st'.h p=AA st.h p)(ho:∀p,BV<p->p<st.c->He ls[i]≠some p->AA st'.h p=AA st.h p)(hv:Kn c st'.h v' r')(hsr:r'.Small) :
 GF c o vs a' st0 st' { g with rules:=g.rules.set i r' }:=by
 have hrid:=H.m.MW
 have hcc:=H.cc
 refine⟨K',cc,hq.trans H.bF,⟨hs.kinds,hs.names,hs.start,by simpa using hs.many,fun r hr=>?_⟩,kv,.AQ BV 0 ls.length none,ls.set i v',hg,H.OE hk,CU.Lr (by simp[H.m.ln]) fun j hl hr2=>?_,.inr ⟨BV,none,68,true,[],by simp,by omega,by rw[List.append_nil]; exact hr⟩⟩
 ·rcases List.mem_or_eq_of_mem_set hr with h|h
  ·exact hs.rules r h
  ·subst h; exact hsr
 ·by_cases e:j=i
  ·subst e
   simp only[List.getElem_set_self]; exact hv
  ·simp only[List.getElem_set_ne (Ne.symm e)]
   have hl':j<ls.length:=by simpa using hl
   refine H.ZL hl' (by simpa using hr2) fun p hp=>?_
   have:=(H.m.each j hl' (by simpa using hr2)).2 p hp
   exact ho p this.1 this.2 fun h=>e (H.m.inj j i hl' hi p hp h)
theorem GS.KP (H:GS c o vs a st0 st g kv BV ls){i:Nat}(hi:i<ls.length):∃(hr:i<g.rules.length) (w:AV),ls[i]=.agg [.str g.rules[i].left,w,.int .i64 g.rules[i].level]/\Fa st.h 9 1 w (strs g.rules[i].right):=by
 have hr:i<g.rules.length:=by rw[← H.m.ln]; exact hi
 obtain⟨w,h1,h2⟩:=(H.m.each i hi hr).1
 exact⟨hr,w,h1,h2⟩
theorem tV (hv:CZ vs zs)(ha:0<=a/\a<100000)(H:GS c o vs a st0 st g kv BV ls)(hs:g.Small)(h0:ts.get 0=.AO o 0)(h3:ts.get 3=.AO (c+1) 0){i:Nat}(hi:i<ls.length)(h4:ts.get 4=.int .i64 (i:Int)) :
 (Ar E (AU E (k+3)) C.f6L11 ts st).to (Gg c o vs a st0 ts):=by
 obtain⟨hr,w,hli,hw⟩:=H.KP hi
 have hrid:=H.m.MW
 have hoc:=H.k.oc
 have hcc:=H.cc
 have K1:=H.k.cons (p:=st.c) (x:=.cells 9 1 [.str [97],.str [81],.str [],.str [95,120],.str [116],.str [110,117,109]] false) (n:=st.c+1) (by omega) (by omega) (by omega)
 have hf1:AA ((st.c,Ai.cells 9 1 [.str [97],.str [81],.str [],.str [95,120],.str [116],.str [110,117,109]] false)::st.h) st.c=some (.cells 9 1 [.str [97],.str [81],.str [],.str [95,120],.str [116],.str [110,117,109]] false):=by simp[AL]
 have hsome:=PE (k:=k) K1.st hv (by omega) (IQ (cap:=some 6) hf1 (show st.c≠o by omega)) (by simp) (by simp)
 obtain⟨s,hsx,hs50⟩:∃s:Aj,[AV.str [97],.str [81],.str [],.str [95,120],.str [116],.str [110,117,109]].getD (Bd zs (a+1) [AV.str [97],.str [81],.str [],.str [95,120],.str [116],.str [110,117,109]].length).toNat .undef=.str s/\s.length<=50:=by
  have:=IW (zs:=zs) (a:=a) (l:=[AV.str [97],.str [81],.str [],.str [95,120],.str [116],.str [110,117,109]]) (by simp)
  generalize List.getD _ _ _=x at this
  simp at this
  rcases this with rfl|rfl|rfl|rfl|rfl|rfl <;> exact⟨_,rfl,by simp⟩
 rw[hsx] at hsome
 have K2:=K1.tick (a+1)
 generalize hS2:tick ⟨(st.c,Ai.cells 9 1 [.str [97],.str [81],.str [],.str [95,120],.str [116],.str [110,117,109]] false)::st.h,st.c+1,st.lo⟩ o vs (a+1)=S2 at K2 hsome
 have hS2c:S2.c=st.c+1:=by rw[← hS2]; rfl
 have hfr:∀p,p<st.c->p≠o->AA S2.h p=AA st.h p:=fun p h1 h2=>by
  rw[← hS2,DK K1.GX h2]; simp[AL,show ¬st.c=p by omega]
 have hr2:AA S2.h BV=some (.cells 68 3 (ls.flatMap AV.cells) true):=by rw[hfr BV (by omega) (by omega)]; exact H.m.rules
 have hg2:AA S2.h (c+1)=some (.cells 29 3 [kv,.str g.start,.AQ BV 0 ls.length none] false):=by rw[hfr _ (by omega) (by omega)]; exact H.Nv
 have hlen3:(ls.flatMap AV.cells).length=ls.length*3:=BD H.m.three
 have hsto:=BX (st:=S2) (off:=3*i) (v:=.str s) hr2 (by rw[K2.lo]; have:=H.k.Np; omega) (by rw[hlen3]; omega) rfl rfl
 rw[PN H.m.three (show ls[i]?=some (.agg [.str g.rules[i].left,w,.int .i64 g.rules[i].level]) by rw[List.getElem?_eq_getElem hi,hli])] at hsto
 have hb':∀p x,(p,x)∈st.h->p<st.c:=H.k.hb
 have hl1:AP st.h (.AO (c+1) 2)=some (.AQ BV 0 ls.length none):=by rw[AB H.Nv]; rfl
 have hl2:AP S2.h (.AO (c+1) 2)=some (.AQ BV 0 ls.length none):=by rw[AB hg2]; rfl
 simp at hsome
 simp[C.f6L11,h0,h3,h4,De,Dx,Cf,CV,Cv,hl1,hl2,AV.Cx,Ay,blt_eq,beq_eq,ble_eq,BB,BM,AV.isTuple,AV.cells,Ac hb',hsome,RQ hr2 hi,hsto,Gg]
 refine⟨_,1,by omega,by omega,H.Rc hs (a':=a+1) hi (r':=⟨s,g.rules[i].right,g.rules[i].level⟩) (v':=.agg [.str s,w,.int .i64 g.rules[i].level]) (K2.Ab (by omega) hr2) (by show c+2<=S2.c; omega) ?_ ?_ ?_ (fun p hp=>?_) (fun p h1 h2 _=>?_) ?_ ?_⟩
 ·show AA (Ab _ _ _) (c+1)=_
  rw[AR hr2,if_neg (by omega)]; exact hg2
 ·show AA (Ab _ _ _) c=_
  rw[AR hr2,if_neg (by omega)]; exact hfr c (by omega) (by omega)
 ·show AA (Ab _ _ _) BV=_
  rw[AR hr2,if_pos rfl]
 ·have:=H.PG hp
  show AA (Ab _ _ _) p=_
  rw[AR hr2,if_neg (by omega)]; exact hfr p (by omega) (by omega)
 ·show AA (Ab _ _ _) p=_
  rw[AR hr2,if_neg (by omega)]; exact hfr p (by omega) (by omega)
 ·refine⟨w,rfl,OZ.of (hw.heap fun p hp=>?_) fun p hp=>?_⟩
  ·have:=(H.m.each i hi hr).2 p (by rw[hli]; exact hp)
   show AA (Ab _ _ _) p=_
   rw[AR hr2,if_neg (by omega)]; exact hfr p (by omega) (by omega)
  ·have:=(H.m.each i hi hr).2 p (by rw[hli]; exact hp)
   omega
 ·have:=hs.rules _ (List.getElem_mem hr)
  exact⟨hs50,this.right,this.names,this.level⟩
end
section
variable {c o:Nat}{vs:AV}{zs:List Int}{a:Int}{st0 st:St}{g:AX}{kv:AV}{BV:Nat}{ls:List AV}{ts:TS}{k:Nat}
theorem tQ (hv:CZ vs zs)(ha:0<=a/\a<100000)(H:GS c o vs a st0 st g kv BV ls)(hs:g.Small)(h0:ts.get 0=.AO o 0)(h3:ts.get 3=.AO (c+1) 0){i:Nat}(hi:i<ls.length)(h4:ts.get 4=.int .i64 (i:Int)) :
 (Ar E (AU E (k+3)) C.f6L7 ts st).to (Gg c o vs a st0 ts):=by
 obtain⟨hr,w,hli,hw⟩:=H.KP hi
 have hrid:=H.m.MW
 have hoc:=H.k.oc
 have hcc:=H.cc
 have K1:=H.k.cons (p:=st.c) (x:=.cells 3 1 [.int .i64 (-1),.int .i64 99,.int .i64 100,.int .i64 1,.int .i64 (-9223372036854775808)] false) (n:=st.c+1) (by omega) (by omega) (by omega)
 have hf1:AA ((st.c,Ai.cells 3 1 [.int .i64 (-1),.int .i64 99,.int .i64 100,.int .i64 1,.int .i64 (-9223372036854775808)] false)::st.h) st.c=some (.cells 3 1 [.int .i64 (-1),.int .i64 99,.int .i64 100,.int .i64 1,.int .i64 (-9223372036854775808)] false):=by simp[AL]
 have hsome:=iY (k:=k) K1.st hv (by omega) (IQ (cap:=some 5) hf1 (show st.c≠o by omega)) (by simp) (by simp)
 obtain⟨s,hsx,hs50⟩:∃s:Int,[AV.int .i64 (-1),.int .i64 99,.int .i64 100,.int .i64 1,.int .i64 (-9223372036854775808)].getD (Bd zs (a+1) [AV.int .i64 (-1),.int .i64 99,.int .i64 100,.int .i64 1,.int .i64 (-9223372036854775808)].length).toNat .undef=.int .i64 s/\(-9223372036854775808<=s/\s<9223372036854775808):=by
  have:=IW (zs:=zs) (a:=a) (l:=[AV.int .i64 (-1),.int .i64 99,.int .i64 100,.int .i64 1,.int .i64 (-9223372036854775808)]) (by simp)
  generalize List.getD _ _ _=x at this
  simp at this
  rcases this with rfl|rfl|rfl|rfl|rfl <;> exact⟨_,rfl,by omega⟩
 rw[hsx] at hsome
 have K2:=K1.tick (a+1)
 generalize hS2:tick ⟨(st.c,Ai.cells 3 1 [.int .i64 (-1),.int .i64 99,.int .i64 100,.int .i64 1,.int .i64 (-9223372036854775808)] false)::st.h,st.c+1,st.lo⟩ o vs (a+1)=S2 at K2 hsome
 have hS2c:S2.c=st.c+1:=by rw[← hS2]; rfl
 have hfr:∀p,p<st.c->p≠o->AA S2.h p=AA st.h p:=fun p h1 h2=>by
  rw[← hS2,DK K1.GX h2]; simp[AL,show ¬st.c=p by omega]
 have hr2:AA S2.h BV=some (.cells 68 3 (ls.flatMap AV.cells) true):=by rw[hfr BV (by omega) (by omega)]; exact H.m.rules
 have hg2:AA S2.h (c+1)=some (.cells 29 3 [kv,.str g.start,.AQ BV 0 ls.length none] false):=by rw[hfr _ (by omega) (by omega)]; exact H.Nv
 have hlen3:(ls.flatMap AV.cells).length=ls.length*3:=BD H.m.three
 have hsto:=BX (st:=S2) (off:=3*i+2) (v:=.int .i64 s) hr2 (by rw[K2.lo]; have:=H.k.Np; omega) (by rw[hlen3]; omega) rfl rfl
 rw[PM H.m.three (show ls[i]?=some (.agg [.str g.rules[i].left,w,.int .i64 g.rules[i].level]) by rw[List.getElem?_eq_getElem hi,hli])] at hsto
 have hb':∀p x,(p,x)∈st.h->p<st.c:=H.k.hb
 have hl1:AP st.h (.AO (c+1) 2)=some (.AQ BV 0 ls.length none):=by rw[AB H.Nv]; rfl
 have hl2:AP S2.h (.AO (c+1) 2)=some (.AQ BV 0 ls.length none):=by rw[AB hg2]; rfl
 simp at hsome
 simp[C.f6L7,h0,h3,h4,De,Dx,Cf,CV,Cv,hl1,hl2,AV.Cx,Ay,blt_eq,beq_eq,ble_eq,BB,BM,AV.isTuple,AV.cells,Ac hb',hsome,RQ hr2 hi,hsto,Gg]
 refine⟨_,1,by omega,by omega,H.Rc hs (a':=a+1) hi (r':=⟨g.rules[i].left,g.rules[i].right,s⟩) (v':=.agg [.str g.rules[i].left,w,.int .i64 s]) (K2.Ab (by omega) hr2) (by show c+2<=S2.c; omega) ?_ ?_ ?_ (fun p hp=>?_) (fun p h1 h2 _=>?_) ?_ ?_⟩
 ·show AA (Ab _ _ _) (c+1)=_
  rw[AR hr2,if_neg (by omega)]; exact hg2
 ·show AA (Ab _ _ _) c=_
  rw[AR hr2,if_neg (by omega)]; exact hfr c (by omega) (by omega)
 ·show AA (Ab _ _ _) BV=_
  rw[AR hr2,if_pos rfl]
 ·have:=H.PG hp
  show AA (Ab _ _ _) p=_
  rw[AR hr2,if_neg (by omega)]; exact hfr p (by omega) (by omega)
 ·show AA (Ab _ _ _) p=_
  rw[AR hr2,if_neg (by omega)]; exact hfr p (by omega) (by omega)
 ·refine⟨w,rfl,OZ.of (hw.heap fun p hp=>?_) fun p hp=>?_⟩
  ·have:=(H.m.each i hi hr).2 p (by rw[hli]; exact hp)
   show AA (Ab _ _ _) p=_
   rw[AR hr2,if_neg (by omega)]; exact hfr p (by omega) (by omega)
  ·have:=(H.m.each i hi hr).2 p (by rw[hli]; exact hp)
   omega
 ·have:=hs.rules _ (List.getElem_mem hr)
  exact⟨this.left,this.right,this.names,hs50⟩
end
theorem KI {st:St}{c o:Nat}{vs:AV}{a:Int}{st0:St}{ty sz bytes id e:Nat}{w x:AV}{xs:List AV}(K:CW c o vs a st0 st)(H:Fa st.h ty sz w xs)(hw:∀p,Ah w=some p->c<=p/\p<id)(hsz:0<sz)(hbt:bytes<=1000)(hl:xs.length<=1000)(he:AA st.h e=some (.cells ty sz x.cells false))(hx:x.cells.length=sz)(hid:∀p y,(p,y)∈st.h->p<id)(hc:id<st.c)(hci:c<=id) :
 ∃st',BU id ty sz bytes w (.AQ e 0 1 (some 1)) st=some (.AQ id 0 (xs.length+1) none,st')/\st'.c=st.c/\CW c o vs a st0 st'/\AA st'.h id=some (.cells ty sz ((xs++[x]).flatMap AV.cells) true) /\
  (∀p,p≠id->Ah w≠some p->AA st'.h p=AA st.h p):=by
 have hz:Nat.beq sz 0=false:=by rw[beq_eq]; simp; omega
 have hss:Nat.beq sz sz=true:=Nat.beq_refl sz
 have htt:Nat.beq ty ty=true:=Nat.beq_refl ty
 have hsz0:sz≠0:=by omega
 have hcs:BH st.h sz 1 (.AQ e 0 1 (some 1))=some x.cells:=by
  simp[BH,he,hss,ble_eq,hx]
  rw[← hx,List.take_length]
 have hroom:(xs.length+1)*bytes<=room/\xs.length+1<=room:=by
  have:=Nat.mul_le_mul (show xs.length+1<=1001 by omega) hbt
  unfold room
  constructor <;> omega
 have grow1:∀(h:Af),(∀p y,(p,y)∈h->p<id)->∀cs,grow id ty sz bytes xs.length 1 cs ⟨h,st.c,st.lo⟩=some (.AQ id 0 (xs.length+1) none,⟨(id,.cells ty sz cs true)::h,st.c,st.lo⟩):=fun h hh cs=>by
  simp[grow,ble_eq,hroom.1,hroom.2,Ac hh]
 have est:st=⟨st.h,st.c,st.lo⟩:=rfl
 cases H with
 |nl=>
  refine⟨⟨(id,.cells ty sz x.cells true)::st.h,st.c,st.lo⟩,?_,rfl,K.cons hci hc (Nat.le_refl _),by simp[AL],fun p hp _=>by simp[AL,Ne.symm hp]⟩
  have:=grow1 st.h hid x.cells
  simp only[List.length_nil] at this
  simp only[BU,lenOf,hcs,BK,hz,cond_false]
  simp only[show Nat.beq 1 0=false from rfl,cond_false]
  exact this
 |mt i2 ext hf=>
  refine⟨⟨(id,.cells ty sz x.cells true)::st.h,st.c,st.lo⟩,?_,rfl,K.cons hci hc (Nat.le_refl _),by simp[AL],fun p hp _=>by simp[AL,Ne.symm hp]⟩
  have:=grow1 st.h hid x.cells
  simp only[List.length_nil] at this
  simp only[BU,lenOf,hcs,BK,hz,cond_false]
  simp only[show Nat.beq 1 0=false from rfl,cond_false,Cn,hf,htt,hss,List.length_nil,Nat.zero_mul,Nat.add_zero,Nat.zero_add,Bool.and_self,Bool.true_and,cond_true,List.drop_nil,List.take_nil,List.nil_append]
  exact this
 |ob i2 xs h0 h1 hf=>
  have hi2:=hw i2 rfl
  have hlen3:=BD h1
  refine⟨⟨(id,.cells ty sz (xs.flatMap AV.cells++x.cells) true)::HY st.h i2,st.c,st.lo⟩,?_,rfl,(K.HY hi2.1).cons hci hc (Nat.le_refl _),by simp[AL],fun p hp hne=>?_⟩
  ·have:=grow1 (HY st.h i2) (fun p y hm=>hid p y (Gy hm)) (xs.flatMap AV.cells++x.cells)
   have hb1:Nat.ble (xs.length*sz) (xs.flatMap AV.cells).length=true:=Nat.ble_eq_true_of_le (by omega)
   have hb2:Nat.ble ((xs.length+1)*sz) (xs.flatMap AV.cells).length=false:=by rw[ble_eq,hlen3]; simp[Nat.succ_mul]; omega
   have hlo:Nat.ble st.lo i2=true:=Nat.ble_eq_true_of_le (by rw[K.lo]; have:=K.Np; have:=K.oc; omega)
   have htk:(xs.flatMap AV.cells).take (xs.length*sz)=xs.flatMap AV.cells:=List.take_of_length_le (by omega)
   simp only[BU,lenOf,hcs,BK,hz,cond_false]
   simp only[show Nat.beq 1 0=false from rfl,cond_false,Cn,hf,htt,hss,Nat.zero_add,hb1,hb2,hlo,Bool.and_self,Bool.true_and,cond_true,List.drop_zero,htk]
   exact this
  ·have:i2≠p:=fun e=>hne (by rw[e]; rfl)
   simp[AL,Ne.symm hp,Dw,this]
section
variable {c o:Nat}{vs:AV}{zs:List Int}{a:Int}{st0 st:St}{g:AX}{kv:AV}{BV:Nat}{ls:List AV}{ts:TS}{k:Nat}
theorem ZM {k:Nat}{st:St}:AU E (k+1) 44 [.str [122],.int .i64 41] st=.ret (.str (repeated [122] 41),st):=ai (g:=hRepeat) rfl rfl
theorem Py (l:List Aj)(s:Aj):strs l++[.str s]=strs (l++[s]):=by simp[strs]
theorem Fa.VP {h:Af}{id:Nat}{l:List Aj}(h0:l≠[])(hf:AA h id=some (.cells 9 1 ((strs l).flatMap AV.cells) true)):Fa h 9 1 (.AQ id 0 l.length none) (strs l):=by
 have:=Fa.ob (h:=h) (ty:=9) (sz:=1) id (strs l) (by simpa [strs] using h0) (fun x hx=>by obtain⟨s,_,rfl⟩:=List.mem_map.1 hx; rfl) hf
 simpa using this
theorem tY (hv:CZ vs zs)(ha:0<=a/\a<100000)(H:GS c o vs a st0 st g kv BV ls)(hs:g.Small)(hk9:g.kinds.length<=9)(h0:ts.get 0=.AO o 0)(h3:ts.get 3=.AO (c+1) 0) :
 (Ar E (AU E (k+3)) C.f6L15 ts st).to (Gg c o vs a st0 ts):=by
 have hrid:=H.m.MW
 have hoc:=H.k.oc
 have hcc:=H.cc
 have K1:=H.k.cons (p:=st.c) (x:=.cells 9 1 [.str [97],.str [65],.str [],.str [122,95,57],.str (repeated [122] 41)] false) (n:=st.c+3) (by omega) (by omega) (by omega)
 have hf1:AA ((st.c,Ai.cells 9 1 [.str [97],.str [65],.str [],.str [122,95,57],.str (repeated [122] 41)] false)::st.h) st.c=some (.cells 9 1 [.str [97],.str [65],.str [],.str [122,95,57],.str (repeated [122] 41)] false):=by simp[AL]
 have hsome:=PE (k:=k) K1.st hv (by omega) (IQ (cap:=some 5) hf1 (show st.c≠o by omega)) (by simp) (by simp)
 obtain⟨s,hsx,hs50⟩:∃s:Aj,[AV.str [97],.str [65],.str [],.str [122,95,57],.str (repeated [122] 41)].getD (Bd zs (a+1) [AV.str [97],.str [65],.str [],.str [122,95,57],.str (repeated [122] 41)].length).toNat .undef=.str s/\s.length<=50:=by
  have:=IW (zs:=zs) (a:=a) (l:=[AV.str [97],.str [65],.str [],.str [122,95,57],.str (repeated [122] 41)]) (by simp)
  generalize List.getD _ _ _=x at this
  simp only[List.mem_cons,List.not_mem_nil,or_false] at this
  rcases this with rfl|rfl|rfl|rfl|rfl <;> exact⟨_,rfl,by decide⟩
 rw[hsx] at hsome
 have K2:=K1.tick (a+1)
 generalize hS2:tick ⟨(st.c,Ai.cells 9 1 [.str [97],.str [65],.str [],.str [122,95,57],.str (repeated [122] 41)] false)::st.h,st.c+3,st.lo⟩ o vs (a+1)=S2 at K2 hsome
 have hS2c:S2.c=st.c+3:=by rw[← hS2]; rfl
 have hfr:∀p,p<st.c->p≠o->AA S2.h p=AA st.h p:=fun p h1 h2=>by
  rw[← hS2,DK K1.GX h2]; simp[AL,show ¬st.c=p by omega]
 have hb2:∀p x,(p,x)∈S2.h->p<st.c+1:=fun p x hm=>by
  rw[← hS2] at hm
  rcases Gj hm with h|h
  ·omega
  ·rcases List.mem_cons.1 h with h|h
   ·cases h; omega
   ·have:=H.k.hb p x h; omega
 have hg2:AA S2.h (c+1)=some (.cells 29 3 [kv,.str g.start,.AQ BV 0 ls.length none] false):=by rw[hfr _ (by omega) (by omega)]; exact H.Nv
 have K3:=K2.cons (p:=st.c+1) (x:=.cells 9 1 [.str s] false) (n:=S2.c) (by omega) (by omega) (Nat.le_refl _)
 have hmk:Fa ((st.c+1,Ai.cells 9 1 [.str s] false)::S2.h) 9 1 kv (strs g.kinds):=H.m.kinds.heap fun p hp=>by
  have:=H.PG hp
  rw[AL,if_neg (by omega)]; exact hfr p (by omega) (by omega)
 obtain⟨S4,happ,hS4c,K4,hf4,hfr4⟩:=KI (bytes:=16) (id:=st.c+2) (e:=st.c+1) (x:=.str s) K3 hmk (fun p hp=>by have:=H.PG hp; omega) (by omega) (by omega) (by simpa using (by omega:g.kinds.length<=1000)) (by simp[AL,AV.cells]) rfl
  (fun p y hm=>by
   rcases List.mem_cons.1 hm with h|h
   ·cases h; omega
   ·have:=hb2 p y h; omega) (by show st.c+2<S2.c; omega) (by omega)
 have hg4:AA S4.h (c+1)=some (.cells 29 3 [kv,.str g.start,.AQ BV 0 ls.length none] false):=by
  rw[hfr4 _ (by omega) (fun e=>by have:=H.PG e; omega),AL,if_neg (by omega)]; exact hg2
 have hsto:=BX (st:=S4) (off:=0) (v:=.AQ (st.c+2) 0 (g.kinds.length+1) none) hg4 (by rw[K4.lo]; have:=H.k.Np; omega) (by simp) rfl rfl
 simp only[List.set_cons_zero] at hsto
 have hb':∀p x,(p,x)∈st.h->p<st.c:=H.k.hb
 have hl1:AP st.h (.AO (c+1) 0)=some kv:=by rw[AB H.Nv]; rfl
 have hl2:AP S2.h (.AO (c+1) 0)=some kv:=by rw[AB hg2]; rfl
 have e3:newObj (st.c+1) (.cells 9 1 [.str s] false) S2=some ⟨(st.c+1,.cells 9 1 [.str s] false)::S2.h,S2.c,S2.lo⟩:=Ac (h:=S2.h) (c:=S2.c) (lo:=S2.lo) hb2
 simp at hsome happ
 simp[C.f6L15,h0,h3,De,Dx,Cf,CV,Cv,hl1,hl2,AV.Cx,Ay,blt_eq,beq_eq,ble_eq,BB,BM,AV.isTuple,AV.cells,ZM,Ac hb',hsome,e3,happ,hsto,Gg]
 have hfin:∀p,p<st.c->p≠o->p≠c+1->Ah kv≠some p->AA (Ab S4.h (c+1) (.cells 29 3 [.AQ (st.c+2) 0 (g.kinds.length+1) none,.str g.start,.AQ BV 0 ls.length none] false)) p=AA st.h p:=fun p h1 h2 h3 h4=>by
  rw[AR hg4,if_neg (Ne.symm h3),hfr4 p (by omega) h4,AL,if_neg (by omega)]; exact hfr p h1 h2
 refine⟨{ g with kinds:=g.kinds++[s] },1,by omega,by omega,K4.Ab (by omega) hg4,by show c+2<=S4.c; rw[hS4c]; show c+2<=S2.c; omega,?_,⟨by simp; omega,fun x hx=>?_,hs.start,hs.many,hs.rules⟩,.AQ (st.c+2) 0 (g.kinds.length+1) none,_,ls,by show AA (Ab _ _ _) (c+1)=_; rw[AR hg4,if_pos rfl],?_,H.Oo fun p h1 h2=>?_,.inr ⟨BV,none,68,true,[],rfl,by omega,?_⟩⟩
 ·show AA (Ab _ _ _) c=_
  rw[hfin c (by omega) (by omega) (by omega) (fun e=>by have:=H.PG e; omega)]; exact H.bF
 ·rcases List.mem_append.1 hx with h|h
  ·exact hs.names x h
  ·simp at h; subst h; exact hs50
 ·rw[Py] at hf4
  have hm:=Fa.VP (l:=g.kinds++[s]) (by simp) hf4
  rw[show (g.kinds++[s]).length=g.kinds.length+1 by simp] at hm
  exact OZ.of (hm.heap fun p hp=>by cases hp; show AA (Ab _ _ _) _=_; rw[AR hg4,if_neg (by omega)]) fun p hp=>by cases hp; omega
 ·exact hfin p (by omega) (by omega) (by omega) (fun e=>by have:=H.PG e; omega)
 ·show AA (Ab _ _ _) BV=_
  rw[hfin BV (by omega) (by omega) (by omega) (fun e=>by have:=H.PG e; omega),List.append_nil]; exact H.m.rules
theorem tT (hv:CZ vs zs)(ha:0<=a/\a<100000)(H:GS c o vs a st0 st g kv BV ls)(hs:g.Small)(hs29:∀r∈g.rules,r.right.length<=29)(h0:ts.get 0=.AO o 0)(h3:ts.get 3=.AO (c+1) 0){i:Nat}(hi:i<ls.length)(h4:ts.get 4=.int .i64 (i:Int)) :
 (Ar E (AU E (k+3)) C.f6L9 ts st).to (Gg c o vs a st0 ts):=by
 obtain⟨hr,w,hli,hw⟩:=H.KP hi
 have hrid:=H.m.MW
 have hoc:=H.k.oc
 have hcc:=H.cc
 have hro:∀p,Ah w=some p->BV<p/\p<st.c:=fun p hp=>(H.m.each i hi hr).2 p (by rw[hli]; exact hp)
 have hr29:=hs29 _ (List.getElem_mem hr)
 have K1:=H.k.cons (p:=st.c) (x:=.cells 9 1 [.str [119],.str [],.str [115],.str [97],.str [112,108,117,115]] false) (n:=st.c+3) (by omega) (by omega) (by omega)
 have hf1:AA ((st.c,Ai.cells 9 1 [.str [119],.str [],.str [115],.str [97],.str [112,108,117,115]] false)::st.h) st.c=some (.cells 9 1 [.str [119],.str [],.str [115],.str [97],.str [112,108,117,115]] false):=by simp[AL]
 have hsome:=PE (k:=k) K1.st hv (by omega) (IQ (cap:=some 5) hf1 (show st.c≠o by omega)) (by simp) (by simp)
 obtain⟨s,hsx,hs50⟩:∃s:Aj,[AV.str [119],.str [],.str [115],.str [97],.str [112,108,117,115]].getD (Bd zs (a+1) [AV.str [119],.str [],.str [115],.str [97],.str [112,108,117,115]].length).toNat .undef=.str s/\s.length<=50:=by
  have:=IW (zs:=zs) (a:=a) (l:=[AV.str [119],.str [],.str [115],.str [97],.str [112,108,117,115]]) (by simp)
  generalize List.getD _ _ _=x at this
  simp only[List.mem_cons,List.not_mem_nil,or_false] at this
  rcases this with rfl|rfl|rfl|rfl|rfl <;> exact⟨_,rfl,by decide⟩
 rw[hsx] at hsome
 have K2:=K1.tick (a+1)
 generalize hS2:tick ⟨(st.c,Ai.cells 9 1 [.str [119],.str [],.str [115],.str [97],.str [112,108,117,115]] false)::st.h,st.c+3,st.lo⟩ o vs (a+1)=S2 at K2 hsome
 have hS2c:S2.c=st.c+3:=by rw[← hS2]; rfl
 have hfr:∀p,p<st.c->p≠o->AA S2.h p=AA st.h p:=fun p h1 h2=>by
  rw[← hS2,DK K1.GX h2]; simp[AL,show ¬st.c=p by omega]
 have hb2:∀p x,(p,x)∈S2.h->p<st.c+1:=fun p x hm=>by
  rw[← hS2] at hm
  rcases Gj hm with h|h
  ·omega
  ·rcases List.mem_cons.1 h with h|h
   ·cases h; omega
   ·have:=H.k.hb p x h; omega
 have hr2:AA S2.h BV=some (.cells 68 3 (ls.flatMap AV.cells) true):=by rw[hfr BV (by omega) (by omega)]; exact H.m.rules
 have hg2:AA S2.h (c+1)=some (.cells 29 3 [kv,.str g.start,.AQ BV 0 ls.length none] false):=by rw[hfr _ (by omega) (by omega)]; exact H.Nv
 have K3:=K2.cons (p:=st.c+1) (x:=.cells 9 1 [.str s] false) (n:=S2.c) (by omega) (by omega) (Nat.le_refl _)
 have hmk:Fa ((st.c+1,Ai.cells 9 1 [.str s] false)::S2.h) 9 1 w (strs g.rules[i].right):=hw.heap fun p hp=>by
  have:=hro p hp
  rw[AL,if_neg (by omega)]; exact hfr p (by omega) (by omega)
 obtain⟨S4,happ,hS4c,K4,hf4,hfr4⟩:=KI (bytes:=16) (id:=st.c+2) (e:=st.c+1) (x:=.str s) K3 hmk (fun p hp=>by have:=hro p hp; omega) (by omega) (by omega) (by simpa using (by omega:g.rules[i].right.length<=1000)) (by simp[AL,AV.cells]) rfl
  (fun p y hm=>by
   rcases List.mem_cons.1 hm with h|h
   ·cases h; omega
   ·have:=hb2 p y h; omega) (by show st.c+2<S2.c; omega) (by omega)
 have hr4:AA S4.h BV=some (.cells 68 3 (ls.flatMap AV.cells) true):=by
  rw[hfr4 _ (by omega) (fun e=>by have:=hro _ e; omega),AL,if_neg (by omega)]; exact hr2
 have hg4:AA S4.h (c+1)=some (.cells 29 3 [kv,.str g.start,.AQ BV 0 ls.length none] false):=by
  rw[hfr4 _ (by omega) (fun e=>by have:=hro _ e; omega),AL,if_neg (by omega)]; exact hg2
 have hlen3:(ls.flatMap AV.cells).length=ls.length*3:=BD H.m.three
 have hget:=Gn H.m.three (show ls[i]?=some (.agg [.str g.rules[i].left,w,.int .i64 g.rules[i].level]) by rw[List.getElem?_eq_getElem hi,hli])
 have hsto:=BX (st:=S4) (off:=3*i+1) (v:=.AQ (st.c+2) 0 (g.rules[i].right.length+1) none) hr4 (by rw[K4.lo]; have:=H.k.Np; omega) (by rw[hlen3]; omega) rfl rfl
 rw[Jb H.m.three (show ls[i]?=some (.agg [.str g.rules[i].left,w,.int .i64 g.rules[i].level]) by rw[List.getElem?_eq_getElem hi,hli])] at hsto
 have hb':∀p x,(p,x)∈st.h->p<st.c:=H.k.hb
 have hl1:AP st.h (.AO (c+1) 2)=some (.AQ BV 0 ls.length none):=by rw[AB H.Nv]; rfl
 have hl2:AP S2.h (.AO (c+1) 2)=some (.AQ BV 0 ls.length none):=by rw[AB hg2]; rfl
 have hl4:AP S4.h (.AO (c+1) 2)=some (.AQ BV 0 ls.length none):=by rw[AB hg4]; rfl
 have hl5:AP st.h (.AO BV (3*i+1))=some w:=by rw[AB H.m.rules]; exact hget.2.1
 have hl6:AP S2.h (.AO BV (3*i+1))=some w:=by rw[AB hr2]; exact hget.2.1
 have e3:newObj (st.c+1) (.cells 9 1 [.str s] false) S2=some ⟨(st.c+1,.cells 9 1 [.str s] false)::S2.h,S2.c,S2.lo⟩:=Ac (h:=S2.h) (c:=S2.c) (lo:=S2.lo) hb2
 have hix:∀n,Aa 3 (.AQ BV 0 ls.length none) (.int .i64 (i:Int)) ⟨st.h,n,st.lo⟩=some (.AO BV (3*i),⟨st.h,n,st.lo⟩):=fun n=>RQ (st:=⟨st.h,n,st.lo⟩) H.m.rules hi
 simp at hsome happ
 simp[C.f6L9,h0,h3,h4,De,Dx,Cf,CV,Cv,Jr,hl1,hl2,hl4,hl5,hl6,hix,RQ hr2 hi,AV.Cx,Ay,blt_eq,beq_eq,ble_eq,BB,BM,AV.isTuple,AV.cells,Ac hb',hsome,e3,happ,RQ hr4 hi,hsto,Gg]
 have hfin:∀p,p<st.c->p≠o->p≠BV->Ah w≠some p->∀y,AA (Ab S4.h BV y) p=AA st.h p:=fun p h1 h2 h3 h4 y=>by
  rw[AR hr4,if_neg (Ne.symm h3),hfr4 p (by omega) h4,AL,if_neg (by omega)]; exact hfr p h1 h2
 refine⟨_,1,by omega,by omega,H.Rc hs (a':=a+1) hi (r':=⟨g.rules[i].left,g.rules[i].right++[s],g.rules[i].level⟩) (v':=.agg [.str g.rules[i].left,.AQ (st.c+2) 0 (g.rules[i].right.length+1) none,.int .i64 g.rules[i].level]) (K4.Ab (by omega) hr4) (by show c+2<=S4.c; rw[hS4c]; show c+2<=S2.c; omega) ?_ ?_ ?_ (fun p hp=>?_) (fun p h1 h2 h5=>?_) ?_ ?_⟩
 ·show AA (Ab _ _ _) (c+1)=_
  rw[AR hr4,if_neg (by omega)]; exact hg4
 ·exact hfin c (by omega) (by omega) (by omega) (fun e=>by have:=hro _ e; omega) _
 ·show AA (Ab _ _ _) BV=_
  rw[AR hr4,if_pos rfl]
 ·have:=H.PG hp
  exact hfin p (by omega) (by omega) (by omega) (fun e=>by have:=hro _ e; omega) _
 ·exact hfin p (by omega) (by omega) (by omega) (fun e=>h5 (by rw[hli]; exact e)) _
 ·rw[Py] at hf4
  have hm:=Fa.VP (l:=g.rules[i].right++[s]) (by simp) hf4
  rw[show (g.rules[i].right++[s]).length=g.rules[i].right.length+1 by simp] at hm
  exact⟨_,rfl,OZ.of (hm.heap fun p hp=>by cases hp; show AA (Ab _ _ _) _=_; rw[AR hr4,if_neg (by omega)]) fun p hp=>by cases hp; omega⟩
 ·have:=hs.rules _ (List.getElem_mem hr)
  refine⟨this.left,by simp; omega,fun x hx=>?_,this.level⟩
  rcases List.mem_append.1 hx with h|h
  ·exact this.names x h
  ·simp at h; subst h; exact hs50
end
section
variable {c o:Nat}{vs:AV}{zs:List Int}{a:Int}{st0 st:St}{g:AX}{kv:AV}{BV:Nat}{ls:List AV}{ts:TS}{k:Nat}
theorem tO (ha:0<=a/\a<100000)(H:GS c o vs a st0 st g kv BV ls)(hs:g.Small)(h11:g.rules.length<=11)(h3:ts.get 3=.AO (c+1) 0){i:Nat}(hi:i<ls.length)(h4:ts.get 4=.int .i64 (i:Int)) :
 (Ar E (AU E (k+3)) C.f6L5 ts st).to (Gg c o vs a st0 ts):=by
 obtain⟨hr,w,hli,hw⟩:=H.KP hi
 have hrid:=H.m.MW
 have hoc:=H.k.oc
 have hcc:=H.cc
 have hln:=H.m.ln
 have hne:ls≠[]:=fun e=>by rw[e] at hi; simp at hi
 have K1:=H.k.cons (p:=st.c) (x:=.cells 68 3 ls[i].cells false) (n:=st.c+2) (by omega) (by omega) (by omega)
 have hx3:ls[i].cells.length=3:=H.m.three _ (List.getElem_mem hi)
 have hm1:Fa ((st.c,Ai.cells 68 3 ls[i].cells false)::st.h) 68 3 (.AQ BV 0 ls.length none) ls:=.ob BV ls hne H.m.three (by simp[AL,show ¬st.c=BV by omega,H.m.rules])
 have hb':∀p x,(p,x)∈st.h->p<st.c:=H.k.hb
 obtain⟨S4,happ,hS4c,K4,hf4,hfr4⟩:=KI (bytes:=48) (id:=st.c+1) (e:=st.c) (x:=ls[i]) K1 hm1 (fun p hp=>by cases hp; omega) (by omega) (by omega) (by omega) (by simp[AL]) hx3
  (fun p y hm=>by
   rcases List.mem_cons.1 hm with h|h
   ·cases h; omega
   ·have:=hb' p y h; omega) (by show st.c+1<st.c+2; omega) (by omega)
 have hg4:AA S4.h (c+1)=some (.cells 29 3 [kv,.str g.start,.AQ BV 0 ls.length none] false):=by
  rw[hfr4 _ (by omega) (fun e=>by cases e; omega),AL,if_neg (by omega)]; exact H.Nv
 have hsto:=BX (st:=S4) (off:=2) (v:=.AQ (st.c+1) 0 (ls.length+1) none) hg4 (by rw[K4.lo]; have:=H.k.Np; omega) (by simp) rfl rfl
 simp only[List.set_cons_succ,List.set_cons_zero] at hsto
 have hl1:AP st.h (.AO (c+1) 2)=some (.AQ BV 0 ls.length none):=by rw[AB H.Nv]; rfl
 have hix:∀n,Aa 3 (.AQ BV 0 ls.length none) (.int .i64 (i:Int)) ⟨st.h,n,st.lo⟩=some (.AO BV (3*i),⟨st.h,n,st.lo⟩):=fun n=>RQ (st:=⟨st.h,n,st.lo⟩) H.m.rules hi
 have hget:=Gn H.m.three (show ls[i]?=some (.agg [.str g.rules[i].left,w,.int .i64 g.rules[i].level]) by rw[List.getElem?_eq_getElem hi,hli])
 have hlen3:(ls.flatMap AV.cells).length=ls.length*3:=BD H.m.three
 have hrd:AZ st.h (.AO BV (3*i)) 3=some [.str g.rules[i].left,w,.int .i64 g.rules[i].level]:=by
  have hle:Nat.ble (3*i+3) (ls.flatMap AV.cells).length=true:=Nat.ble_eq_true_of_le (by omega)
  simp only[AZ,H.m.rules,hle,cond_true,Option.some.injEq]
  apply List.ext_getElem?
  intro j
  match j with
  |0=>simpa using hget.1
  |1=>simpa using hget.2.1
  |2=>simpa using hget.2.2
  |j+3=>simp; omega
 have hmw:=hw.one
 rw[hli] at happ hf4
 simp[AV.cells] at happ
 have hr':(C.f6L5=C.f6L5):=rfl
 have hxc:BB [.str [],.AJ,.int .i64 0] [(0,3)] [.agg [.str g.rules[i].left,w,.int .i64 g.rules[i].level]]=some [.str g.rules[i].left,w,.int .i64 g.rules[i].level]:=by
  simp[BB,AV.isTuple,AV.cells,beq_eq,ble_eq,BM]
 simp[C.f6L5,h3,h4,hl1,hix,hrd,Ay,hxc,blt_eq,beq_eq,ble_eq,Ac hb',happ,hsto,Gg]
 have hfin:∀p,p<st.c->p≠c+1->p≠BV->∀y,AA (Ab S4.h (c+1) y) p=AA st.h p:=fun p h1 h2 h3 y=>by
  rw[AR hg4,if_neg (Ne.symm h2),hfr4 p (by omega) (fun e=>by cases e; omega),AL,if_neg (by omega)]
 have hth:=H.Oo (h':=Ab S4.h (c+1) (.cells 29 3 [kv,.str g.start,.AQ (st.c+1) 0 (ls.length+1) none] false)) fun p h1 h2=>hfin p h2 (by omega) (by omega) _
 refine⟨{ g with rules:=g.rules++[g.rules[i]] },0,by omega,by omega,by rw[Int.add_zero]; exact K4.Ab (by omega) hg4,by show c+2<=S4.c; rw[hS4c]; show c+2<=st.c+2; omega,?_,⟨hs.kinds,hs.names,hs.start,by simp; omega,fun r hr=>?_⟩,kv,.AQ (st.c+1) 0 (ls.length+1) none,ls++[ls[i]],?_,H.OE fun p hp=>?_,CU.Lr (by simp[hln]) fun j hl hr2=>?_,.inr ⟨st.c+1,none,68,true,[],by simp,by omega,?_⟩⟩
 ·show AA (Ab _ _ _) c=_
  rw[hfin c (by omega) (by omega) (by omega)]; exact H.bF
 ·rcases List.mem_append.1 hr with h|h
  ·exact hs.rules r h
  ·simp at h; subst h; exact hs.rules _ (List.getElem_mem _)
 ·show AA (Ab _ _ _) (c+1)=_
  rw[AR hg4,if_pos rfl]
 ·have:=H.PG hp
  exact hfin p (by omega) (by omega) (by omega) _
 ·have get:∀(m:Nat) (hm:m<ls.length),Kn c (Ab S4.h (c+1) (.cells 29 3 [kv,.str g.start,.AQ (st.c+1) 0 (ls.length+1) none] false)) ls[m] (g.rules[m]'(by omega)):=fun m hm=>
   H.ZL hm (by omega) fun p hp=>by have:=(H.m.each m hm (by omega)).2 p hp; exact hfin p (by omega) (by omega) (by omega) _
  by_cases hj:j<ls.length
  ·simp only[List.getElem_append_left hj,List.getElem_append_left (show j<g.rules.length by omega)]
   exact get j hj
  ·have hj2:j=ls.length:=by simp at hl; omega
   subst hj2
   have e1:(ls++[ls[i]])[ls.length]'(by simp)=ls[i]:=by simp
   have e2:(g.rules++[g.rules[i]])[ls.length]'(by simp[hln])=g.rules[i]:=by simp[hln]
   rw[e1,e2]
   exact get i hi
 ·show AA (Ab _ _ _) (st.c+1)=_
  rw[AR hg4,if_neg (by omega),hf4,List.append_nil,hli]
end
def FM:List AV:=[.str [],.AJ,.int .i64 0]
theorem Xy {ls:List AV}(h3:∀x∈ls,x.cells.length=3){i:Nat}(hi:i<ls.length) :
 (ls.flatMap AV.cells).take (3*i)=(ls.take i).flatMap AV.cells/\(ls.flatMap AV.cells).drop (3*i)=(ls.drop i).flatMap AV.cells:=by
 have ht:∀{l:List AV},(∀x∈l,x.cells.length=3)->∀i,(l.flatMap AV.cells).take (3*i)=(l.take i).flatMap AV.cells/\(l.flatMap AV.cells).drop (3*i)=(l.drop i).flatMap AV.cells:=by
  intro l
  induction l with
  |nil=>intro _ i; simp
  |cons x l ih=>
   intro h i
   cases i with
   |zero=>simp
   |succ i=>
    have hx:=h x (by simp)
    obtain⟨a,b⟩:=ih (fun y hy=>h y (by simp[hy])) i
    rw[List.flatMap_cons,List.take_append,List.drop_append,hx,show 3*(i+1)-3=3*i by omega,a,b,List.take_of_length_le (by omega),List.drop_eq_nil_of_le (by omega)]
    simp
 exact ht h3 i
theorem fB {h:Af}{o:Nat}{x:Ai}(hf:AA h o=some x):Ab h o x=h:=by
 induction h with
 |nil=>rfl
 |cons q h ih=>
  obtain⟨i,z⟩:=q
  rw[AL] at hf
  simp only[Ab,beq_eq,cond_eq_ite,decide_eq_true_eq]
  by_cases e:i=o
  ·rw[if_pos e] at hf ⊢; cases hf; rfl
  ·rw[if_neg e] at hf ⊢; rw[ih hf]
theorem TU (i:Nat):asNat (.int .i64 ((i:Int)+1))=some (i+1):=rfl
theorem aC {k:Nat}{st:St}{BV i:Nat}{ls:List AV}(hf:AA st.h BV=some (.cells 68 3 (ls.flatMap AV.cells) true))(h3:∀x∈ls,x.cells.length=3)(hlo:st.lo<=BV)(hi:i<ls.length)(hn:ls.length<=100) :
 AU E (k+1) 47 [.AQ BV 0 ls.length none,.int .i64 (i:Int),.int .i64 ((i:Int)+1)] st=.ret (.AQ BV 0 (ls.length-1) none,{ st with h:=Ab st.h BV (.cells 68 3 ((ls.eraseIdx i).flatMap AV.cells++FM) true),c:=st.c+1 }):=by
 rw[Ap (fn:=C.f47) rfl rfl rfl,Ad (by simp)]
 have hlen3:(ls.flatMap AV.cells).length=ls.length*3:=BD h3
 have hne:((i:Int)==(i:Int)+1)=false:=by simp; omega
 have hcast:((i:Int)+1)=((i+1:Nat):Int):=by simp
 have hsl:∀c',CF 3 true true true [.AQ BV 0 ls.length none,.int .i64 (i:Int),.int .i64 ((i:Int)+1),.int .i64 (ls.length:Int)] ⟨st.h,c',st.lo⟩=some (.AQ BV (i*3) 1 (some (ls.length-i)),⟨st.h,c',st.lo⟩):=fun c'=>by
  have h1:i+1<=ls.length:=by omega
  have h2:i<=i+1:=by omega
  have h4:i+1-i=1:=by omega
  simp[CF,Dc,Bb,TU,h1,h2,h4,Cz,hf,Du,beq_eq,blt_eq,ble_eq,hlen3]
 have hs1:∀c',CF 3 false true false [.AQ BV 0 ls.length none,.int .i64 (i:Int)] ⟨st.h,c',st.lo⟩=some (.AQ BV 0 i none,⟨st.h,c',st.lo⟩):=fun c'=>by
  have h1:i<=ls.length:=by omega
  have h5:i*3<=ls.length*3:=by omega
  simp[CF,Dc,Bb,h1,h5,Cz,hf,Du,beq_eq,blt_eq,ble_eq,hlen3]
 have hs2:∀c',CF 3 true false false [.AQ BV 0 ls.length none,.int .i64 ((i:Int)+1)] ⟨st.h,c',st.lo⟩=some (.AQ BV ((i+1)*3) (ls.length-(i+1)) none,⟨st.h,c',st.lo⟩):=fun c'=>by
  have h1:i+1<=ls.length:=by omega
  simp[CF,Dc,Bb,TU,h1,Cz,hf,Du,beq_eq,blt_eq,ble_eq,hlen3]
 obtain⟨e1,e2⟩:=Xy h3 (i:=i) hi
 have e2':(ls.flatMap AV.cells).drop ((i+1)*3)=(ls.drop (i+1)).flatMap AV.cells:=by
  rw[show (i+1)*3=3*i+3 by omega,← List.drop_drop,e2]
  have:ls.drop i=ls[i]::ls.drop (i+1):=List.drop_eq_getElem_cons hi
  rw[this,List.flatMap_cons,List.drop_append,h3 _ (List.getElem_mem hi),List.drop_eq_nil_of_le (by rw[h3 _ (List.getElem_mem hi)]; omega)]
  simp
 have hta:(ls.flatMap AV.cells).take (i*3)=(ls.take i).flatMap AV.cells:=by rw[Nat.mul_comm]; exact e1
 have her:ls.eraseIdx i=ls.take i++ls.drop (i+1):=List.eraseIdx_eq_take_drop_succ ls i
 have hel:(ls.eraseIdx i).length=ls.length-1:=List.length_eraseIdx_of_lt hi
 have hec:((ls.eraseIdx i).flatMap AV.cells).length=(ls.length-1)*3:=by
  rw[BD (fun x hx=>h3 x (List.mem_of_mem_eraseIdx hx)),hel]
 have hdl:((ls.drop (i+1)).flatMap AV.cells).length=(ls.length-(i+1))*3:=by
  rw[BD (fun x hx=>h3 x (List.mem_of_mem_drop hx)),List.length_drop]
 obtain⟨tl,htl,hcs1⟩:∃tl:List AV,tl.length=3/\BM (ls.flatMap AV.cells) (i*3) ((ls.drop (i+1)).flatMap AV.cells)=(ls.eraseIdx i).flatMap AV.cells++tl:=by
  refine⟨(ls.flatMap AV.cells).drop (i*3+((ls.drop (i+1)).flatMap AV.cells).length),?_,?_⟩
  ·rw[List.length_drop,hlen3,hdl]; omega
  ·rw[BM,hta,her,List.flatMap_append,List.append_assoc]
 have happ:∀c',BU st.c 68 3 48 (.AQ BV 0 i none) (.AQ BV ((i+1)*3) (ls.length-(i+1)) none) ⟨st.h,c',st.lo⟩=some (.AQ BV 0 (ls.length-1) none,⟨Ab st.h BV (.cells 68 3 ((ls.eraseIdx i).flatMap AV.cells++tl) true),c',st.lo⟩):=fun c'=>by
  have hsc:BH st.h 3 (ls.length-(i+1)) (.AQ BV ((i+1)*3) (ls.length-(i+1)) none)=some ((ls.drop (i+1)).flatMap AV.cells):=by
   have h1:(i+1)*3+(ls.length-(i+1))*3<=(ls.flatMap AV.cells).length:=by rw[hlen3]; omega
   simp only[BH,hf,ble_eq,h1,decide_true,Nat.le_refl,Bool.and_self,cond_true,e2']
   simp only[show Nat.beq 3 3=true from rfl,Bool.and_self,cond_true,Option.some.injEq]
   exact List.take_of_length_le (by rw[hdl]; exact Nat.le_refl _)
  simp only[BU,lenOf,hsc,BK,show Nat.beq 3 0=false from rfl,cond_false]
  by_cases hm:ls.length-(i+1)=0
  ·have:ls.length-1=i:=by omega
   have hsp:BM (ls.flatMap AV.cells) (i*3) ((ls.drop (i+1)).flatMap AV.cells)=ls.flatMap AV.cells:=by
    have:ls.drop (i+1)=[]:=List.drop_eq_nil_of_le (by omega)
    rw[this]; simp[BM]
   rw[hm,this,← hcs1,hsp,fB hf]
   rfl
  ·have hb0:Nat.beq (ls.length-(i+1)) 0=false:=by rw[beq_eq]; simpa using hm
   have hb1:Nat.ble (0+i*3) (ls.flatMap AV.cells).length=true:=Nat.ble_eq_true_of_le (by omega)
   have hb2:Nat.ble (0+(i+(ls.length-(i+1)))*3) (ls.flatMap AV.cells).length=true:=Nat.ble_eq_true_of_le (by omega)
   have hb3:Nat.blt BV st.lo=false:=by rw[blt_eq]; simp; omega
   have hb4:Nat.ble (0+i*3+((ls.drop (i+1)).flatMap AV.cells).length) (ls.flatMap AV.cells).length=true:=Nat.ble_eq_true_of_le (by rw[hdl]; omega)
   simp only[hb0,cond_false,Cn,hf,show Nat.beq 68 68=true from rfl,show Nat.beq 3 3=true from rfl,hb1,hb2,Bool.and_self,cond_true,Bl,hb3,hb4]
   rw[Nat.zero_add,hcs1,show i+(ls.length-(i+1))=ls.length-1 by omega]
 have hf2:AA (Ab st.h BV (.cells 68 3 ((ls.eraseIdx i).flatMap AV.cells++tl) true)) BV=some (.cells 68 3 ((ls.eraseIdx i).flatMap AV.cells++tl) true):=by rw[AR hf,if_pos rfl]
 have hlen2:((ls.eraseIdx i).flatMap AV.cells++tl).length=ls.length*3:=by rw[List.length_append,hec,htl]; omega
 have hs3:∀c',CF 3 true true false [.AQ BV 0 (ls.length-1) none,.int .i64 ((ls.length-1:Nat):Int),.int .i64 (ls.length:Int)] ⟨Ab st.h BV (.cells 68 3 ((ls.eraseIdx i).flatMap AV.cells++tl) true),c',st.lo⟩=some (.AQ BV ((ls.length-1)*3) 1 none,⟨Ab st.h BV (.cells 68 3 ((ls.eraseIdx i).flatMap AV.cells++tl) true),c',st.lo⟩):=fun c'=>by
  have h1:Nat.ble (ls.length-1) ls.length=true:=Nat.ble_eq_true_of_le (by omega)
  have h2:Nat.ble (ls.length*3) ((ls.eraseIdx i).flatMap AV.cells++tl).length=true:=Nat.ble_eq_true_of_le (by omega)
  have h4:ls.length-(ls.length-1)=1:=by omega
  simp only[CF,Dc,Bb,Cz,hf2,Du,show Nat.beq 3 3=true from rfl,show Nat.blt 0 3=true from rfl,Bool.and_self,cond_true,Option.getD_some,h1,h2,h4,fD,Nat.zero_add]
 have hcl:∀c',Dk [.str [],.AJ,.int .i64 0] (.AQ BV ((ls.length-1)*3) 1 none) ⟨Ab st.h BV (.cells 68 3 ((ls.eraseIdx i).flatMap AV.cells++tl) true),c',st.lo⟩=some (.tuple [],⟨Ab st.h BV (.cells 68 3 ((ls.eraseIdx i).flatMap AV.cells++FM) true),c',st.lo⟩):=fun c'=>by
  have hb3:Nat.blt BV st.lo=false:=by rw[blt_eq]; simp; omega
  have hb4:Nat.ble ((ls.length-1)*3+FM.length) ((ls.eraseIdx i).flatMap AV.cells++tl).length=true:=Nat.ble_eq_true_of_le (by rw[hlen2]; show (ls.length-1)*3+3<=_; omega)
  have hsp:BM ((ls.eraseIdx i).flatMap AV.cells++tl) ((ls.length-1)*3) FM=(ls.eraseIdx i).flatMap AV.cells++FM:=by
   unfold BM
   rw[List.take_append_of_le_length (by omega),List.take_of_length_le (by omega),List.drop_eq_nil_of_le (by rw[hlen2]; show _<=(ls.length-1)*3+3; omega),List.append_nil]
  simp only[Dk,show Nat.beq 1 0=false from rfl,cond_false,hf2]
  show (bif Nat.beq 3 3 then Cm (.tuple []) (Bl _ BV ((ls.length-1)*3) FM) else none)=_
  simp only[show Nat.beq 3 3=true from rfl,cond_true,Bl,hb3,cond_false,hf2,hb4,hsp,Cm,Ue]
 have hlS:∀n st',BO .slice (.AQ BV 0 n none) st'=some (.int .i64 (n:Int),st'):=fun n st'=>rfl
 simp[C.f47,hlS,hsl,hne,hs1,hs2,happ,hs3,hcl,leave,results,AY]
section
variable {c o:Nat}{vs:AV}{zs:List Int}{a:Int}{st0 st:St}{g:AX}{kv:AV}{BV:Nat}{ls:List AV}{ts:TS}{k:Nat}
theorem tL (ha:0<=a/\a<100000)(H:GS c o vs a st0 st g kv BV ls)(hs:g.Small)(h3:ts.get 3=.AO (c+1) 0){i:Nat}(hi:i<ls.length)(h4:ts.get 4=.int .i64 (i:Int)) :
 (Ar E (AU E (k+3)) C.f6L1 ts st).to (Gg c o vs a st0 ts):=by
 have hrid:=H.m.MW
 have hoc:=H.k.oc
 have hcc:=H.cc
 have hln:=H.m.ln
 have hm12:=hs.many
 have HY:=aC (k:=k+2) (st:=st) (i:=i) H.m.rules H.m.three (by rw[H.k.lo]; have:=H.k.Np; omega) hi (by omega)
 have K1:=H.k.Ab (p:=BV) (x:=.cells 68 3 ((ls.eraseIdx i).flatMap AV.cells++FM) true) (by omega) H.m.rules
 have K2:CW c o vs a st0 { st with h:=Ab st.h BV (.cells 68 3 ((ls.eraseIdx i).flatMap AV.cells++FM) true),c:=st.c+1 }:=
  ⟨fun p x hx=>Nat.lt_succ_of_lt (K1.hb p x hx),K1.lo,K1.Np,K1.oc,K1.GX,K1.Bw,K1.mem⟩
 have hg2:AA (Ab st.h BV (.cells 68 3 ((ls.eraseIdx i).flatMap AV.cells++FM) true)) (c+1)=some (.cells 29 3 [kv,.str g.start,.AQ BV 0 ls.length none] false):=by
  rw[AR H.m.rules,if_neg (by omega)]; exact H.Nv
 have hsto:=BX (st:={ st with h:=Ab st.h BV (.cells 68 3 ((ls.eraseIdx i).flatMap AV.cells++FM) true),c:=st.c+1 }) (off:=2) (v:=.AQ BV 0 (ls.length-1) none) hg2 (by show st.lo<=c+1; rw[H.k.lo]; have:=H.k.Np; omega) (by simp) rfl rfl
 simp only[List.set_cons_succ,List.set_cons_zero] at hsto
 have hl1:AP st.h (.AO (c+1) 2)=some (.AQ BV 0 ls.length none):=by rw[AB H.Nv]; rfl
 simp[C.f6L1,h3,h4,hl1,wi i,HY,hsto,Gg]
 have hfin:∀p,p≠c+1->p≠BV->AA (Ab (Ab st.h BV (.cells 68 3 ((ls.eraseIdx i).flatMap AV.cells++FM) true)) (c+1) (.cells 29 3 [kv,.str g.start,.AQ BV 0 (ls.length-1) none] false)) p=AA st.h p:=fun p h2 h3=>by
  rw[AR hg2,if_neg (Ne.symm h2),AR H.m.rules,if_neg (Ne.symm h3)]
 have hth:=H.Oo (h':=Ab (Ab st.h BV (.cells 68 3 ((ls.eraseIdx i).flatMap AV.cells++FM) true)) (c+1) (.cells 29 3 [kv,.str g.start,.AQ BV 0 (ls.length-1) none] false)) fun p h1 h2=>hfin p (by omega) (by omega)
 have hel:(ls.eraseIdx i).length=ls.length-1:=List.length_eraseIdx_of_lt hi
 have herase:∀{l:List AV} {rs:List Ba} {h:Af},CU c h l rs->∀i,CU c h (l.eraseIdx i) (rs.eraseIdx i):=by
  intro l rs h H
  induction H with
  |nil=>intro i; exact .nil
  |cons a t ih=>
   intro i
   cases i with
   |zero=>exact t
   |succ i=>exact .cons a (ih i)
 refine⟨{ g with rules:=g.rules.eraseIdx i },0,by omega,by omega,by rw[Int.add_zero]; exact K2.Ab (by omega) hg2,by show c+2<=st.c+1; omega,?_,⟨hs.kinds,hs.names,hs.start,by rw[List.length_eraseIdx]; split <;> omega,fun r hr=>hs.rules r (List.mem_of_mem_eraseIdx hr)⟩,kv,.AQ BV 0 (ls.length-1) none,ls.eraseIdx i,?_,H.OE fun p hp=>?_,herase hth i,.inr ⟨BV,none,68,true,FM,by rw[hel],by omega,?_⟩⟩
 ·show AA (Ab _ _ _) c=_
  rw[hfin c (by omega) (by omega)]; exact H.bF
 ·show AA (Ab _ _ _) (c+1)=_
  rw[AR hg2,if_pos rfl]
 ·have:=H.PG hp
  exact hfin p (by omega) (by omega)
 ·show AA (Ab _ _ _) BV=_
  rw[AR hg2,if_neg (by omega),AR H.m.rules,if_pos rfl]
end
theorem uK {k:Nat}{st:St}:AU E (k+2) 117 [.int .u64 1,.int .u64 20] st=.ret (.tuple [.int .u64 0,.int .u64 20],st):=by kernel_rfl
theorem uJ {k:Nat}{st:St}:AU E (k+2) 117 [.int .u64 1,.int .u64 21] st=.ret (.tuple [.int .u64 0,.int .u64 21],st):=by kernel_rfl
def filled (s:Aj)(m n:Nat):List AV:=List.replicate m (.str s)++List.replicate (n-m) (.str [])
theorem Tx {s:Aj}{m n:Nat}(h:m<=n):(filled s m n).length=n:=by simp[filled]; omega
theorem MM (v:AV):∀n,CQ [v] n=List.replicate n v
 |0=>rfl
 |n+1=>by rw[CQ,MM v n]; rfl
theorem Wn {k:Nat}{st:St}{id n:Nat}{s:Aj}(hlo:st.lo<=id)(hf:∃x,AA st.h id=some x)(hn:n<=100)(ts:TS)(h7:ts.get 7=.AQ id 0 n (some n))(h8:ts.get 8=.int .i64 ((1:Nat):Int))(h1:1<=n) :
 (CJ (Ar E (AU E k) C.f46L0) E.k ts { st with h:=Ab st.h id (.cells 9 1 (filled s 1 n) false) }).to fun r=>r.1=.exit 0/\r.2.1.get 7=.AQ id 0 n (some n)/\r.2.2={ st with h:=Ab st.h id (.cells 9 1 (filled s n n) false) }:=by
 obtain⟨x0,hx0⟩:=hf
 refine Be (fun (m:Nat) ts st'=>1<=m/\m<=n/\ts.get 7=.AQ id 0 n (some n)/\ts.get 8=.int .i64 (m:Int)/\st'={ st with h:=Ab st.h id (.cells 9 1 (filled s m n) false) })
  (fun m=>n-m) ?_ _ 1 _ _ ?_ ?_
 ·rintro m ts st' ⟨hm1,hm2,h7,h8,rfl⟩
  have hf:AA (Ab st.h id (.cells 9 1 (filled s m n) false)) id=some (.cells 9 1 (filled s m n) false):=by rw[AR hx0,if_pos rfl]
  have hlenF:=Tx (s:=s) hm2
  by_cases Au:m<n
  ·have e1:∀c',CF 1 true false false [.AQ id 0 n (some n),.int .i64 (m:Int)] ⟨Ab st.h id (.cells 9 1 (filled s m n) false),c',st.lo⟩=some (.AQ id m (n-m) (some (n-m)),⟨Ab st.h id (.cells 9 1 (filled s m n) false),c',st.lo⟩):=fun c'=>by
    simp[CF,Dc,Bb,Cz,hf,Du,beq_eq,blt_eq,ble_eq,hm2]
   have e2:∀c',CF 1 false true false [.AQ id 0 n (some n),.int .i64 (m:Int)] ⟨Ab st.h id (.cells 9 1 (filled s m n) false),c',st.lo⟩=some (.AQ id 0 m (some n),⟨Ab st.h id (.cells 9 1 (filled s m n) false),c',st.lo⟩):=fun c'=>by
    simp[CF,Dc,Bb,Cz,hf,Du,beq_eq,blt_eq,ble_eq,hm2]
   have hmin:Nat.min m (n-m)=if m<=n-m then m else n-m:=by simp[Nat.min_def]
   have e3:∀c',Lp 1 (.AQ id m (n-m) (some (n-m))) (.AQ id 0 m (some n)) ⟨Ab st.h id (.cells 9 1 (filled s m n) false),c',st.lo⟩=some (.int .i64 ((Nat.min m (n-m):Nat):Int),⟨Ab st.h id (.cells 9 1 (filled s (m+Nat.min m (n-m)) n) false),c',st.lo⟩):=fun c'=>by
    have hq:Nat.min m (n-m)<=m/\Nat.min m (n-m)<=n-m/\Nat.min m (n-m)≠0:=by rw[hmin]; split <;> omega
    obtain⟨q,hqe⟩:∃q,Nat.min m (n-m)=q:=⟨_,rfl⟩
    rw[hqe] at hq
    rw[hqe]
    have h1:Nat.ble q m=true:=Nat.ble_eq_true_of_le hq.1
    have h2:Nat.ble (0+q*1) (filled s m n).length=true:=Nat.ble_eq_true_of_le (by omega)
    have htk:((filled s m n).drop 0).take (q*1)=List.replicate q (.str s):=by
     rw[List.drop_zero,Nat.mul_one,filled,List.take_append_of_le_length (by simp; omega),List.take_replicate]; congr 1; omega
    have h3:Nat.beq q 0=false:=by rw[beq_eq]; simpa using hq.2.2
    have h4:Nat.blt id st.lo=false:=by rw[blt_eq]; simp; omega
    have h5:Nat.ble (m+(List.replicate q (AV.str s)).length) (filled s m n).length=true:=Nat.ble_eq_true_of_le (by simp; omega)
    have hsp:BM (filled s m n) m (List.replicate q (.str s))=filled s (m+q) n:=by
     unfold BM filled
     rw[List.take_append_of_le_length (by simp),List.take_of_length_le (by simp),List.drop_append,List.drop_eq_nil_of_le (by simp),List.nil_append,List.length_replicate,List.length_replicate,List.drop_replicate,← List.append_assoc,List.replicate_append_replicate]
     congr 2; omega
    simp only[Lp,lenOf,hqe]
    simp only[BH,hf,show Nat.beq 1 1=true from rfl,h1,h2,Bool.and_self,cond_true,htk,h3,cond_false,Bl,h4,h5,hsp,Cm,Ue]
   have hq:Nat.min m (n-m)<=n-m/\1<=Nat.min m (n-m):=by rw[hmin]; split <;> omega
   simp[C.f46L0,h7,h8,BO,Bq,Au,e1,e2,e3,wrap64 (n:=(m:Int)+(Nat.min m (n-m):Nat)) (by omega) (by omega)]
   exact⟨m+Nat.min m (n-m),by omega,by omega,by omega,by simp,rfl⟩
  ·have:m=n:=by omega
   subst this
   simp[C.f46L0,h7,h8,BO,Bq]
 ·show n-1<1000000; omega
 ·exact⟨Nat.le_refl _,h1,h7,h8,rfl⟩
theorem iT {k:Nat}{st:St}{e n:Nat}{s:Aj}(hb:HB st)(hlo:st.lo<=st.c)(he:AA st.h e=some (.cells 9 1 [.str s] false))(hec:e<st.c)(hn:n=20∨n=21) :
 AU E (k+3) 46 [.AQ e 0 1 (some 1),.int .i64 (n:Int)] st=.ret (.AQ st.c 0 n (some n),⟨(st.c,.cells 9 1 (List.replicate n (.str s)) false)::st.h,st.c+1,st.lo⟩):=by
 rw[Ap (fn:=C.f46) rfl rfl rfl,Ad (by simp)]
 have hb':∀p x,(p,x)∈st.h->p<st.c:=hb
 have hmul:∀st',AU E (k+2) 117 [.int .u64 1,.int .u64 (n:Int)] st'=.ret (.tuple [.int .u64 0,.int .u64 (n:Int)],st'):=fun st'=>by
  rcases hn with rfl|rfl
  ·exact uK
  ·exact uJ
 have hn100:n<=100:=by omega
 have hroom:n*16<=room/\n<=room:=by unfold room; constructor <;> omega
 have hu:IntKind.u64.wrap ((n:Nat):Int)=n:=by rcases hn with rfl|rfl <;> rfl
 have hi:IntKind.i64.wrap ((n:Nat):Int)=n:=wrap64 (by omega) (by omega)
 have h1u:IntKind.u64.wrap ((1:Nat):Int)=1:=rfl
 have h1u':IntKind.u64.wrap 1=1:=rfl
 have g1:bin .gtr (.int .u64 0) (.int .u64 0)=some (.bool false):=rfl
 have g2:bin .gtr (.int .u64 (n:Int)) (.int .u64 9223372036854775807)=some (.bool false):=by
  show some (AV.bool (decide ((9223372036854775807:Int)<n)))=_
  rw[decide_eq_false (by omega)]
 have hcp:∀c',Lp 1 (.AQ st.c 0 n (some n)) (.AQ e 0 1 (some 1)) ⟨(st.c,.cells 9 1 (List.replicate n (.str [])) false)::st.h,c',st.lo⟩=some (.int .i64 1,⟨Ab ((st.c,.cells 9 1 (List.replicate n (.str [])) false)::st.h) st.c (.cells 9 1 (filled s 1 n) false),c',st.lo⟩):=fun c'=>by
  have hm:Nat.min 1 n=1:=by simp[Nat.min_def]; omega
  have hf:AA ((st.c,Ai.cells 9 1 (List.replicate n (.str [])) false)::st.h) e=some (.cells 9 1 [.str s] false):=by rw[AL,if_neg (by omega)]; exact he
  have hf2:AA ((st.c,Ai.cells 9 1 (List.replicate n (.str [])) false)::st.h) st.c=some (.cells 9 1 (List.replicate n (.str [])) false):=by rw[AL,if_pos rfl]
  have h4:Nat.blt st.c st.lo=false:=by rw[blt_eq]; simp; omega
  have h5:Nat.ble (0+1) (List.replicate n (AV.str [])).length=true:=Nat.ble_eq_true_of_le (by simp; omega)
  have hsp:BM (List.replicate n (AV.str [])) 0 [.str s]=filled s 1 n:=by simp[BM,filled]
  simp only[Lp,lenOf,hm]
  simp only[BH,hf]
  have hc0:(Nat.beq 1 1&&Nat.ble 1 1&&Nat.ble (0+1*1) [AV.str s].length)=true:=rfl
  have ht0:([AV.str s].drop 0).take (1*1)=[.str s]:=rfl
  rw[hc0]
  simp only[cond_true,ht0]
  simp only[show Nat.beq 1 0=false from rfl,cond_false,hf2,show Nat.beq 1 1=true from rfl,cond_true,Bl,h4,List.length_singleton,h5,hsp,Cm]
  rfl
 have hloop:=fun ts a b=>Wn (k:=k+2) (st:=⟨(st.c,.cells 9 1 (List.replicate n (.str [])) false)::st.h,st.c+1,st.lo⟩) (id:=st.c) (n:=n) (s:=s) hlo ⟨_,by rw[AL,if_pos rfl]⟩ hn100 ts a b (by omega)
 have hms:GH st.c 9 1 16 [.str []] (.int .i64 (n:Int)) (.int .i64 (n:Int))=some (.AQ st.c 0 n (some n),.cells 9 1 (List.replicate n (.str [])) false):=by
  simp[GH,Bb,ble_eq,blt_eq,beq_eq,hroom.1,hroom.2,MM]
 have hneg:¬((n:Int)<0):=by omega
 apply M.to_eq
 simp[C.f46,hneg,BO,Bq,h1u',hu,hi,hmul,g1,g2,KJ,hms,Ac hb',hcp]
 refine M.Al (hloop _ (by simp) (by simp)) fun r hr=>?_
 obtain⟨x,ts,st'⟩:=r
 obtain⟨rfl,h7,rfl⟩:=hr
 have hff:filled s n n=List.replicate n (.str s):=by simp[filled]
 simp[h7,leave,results,AY,Ab,beq_eq,hff]
theorem OZ.uI {c id:Nat}{h:Af}{l:List Aj}{cap:Option Nat}{ext:Bool}{ty:Nat}(hf:AA h id=some (.cells ty 1 (strs l) ext))(hc:c<id):OZ c h (.AQ id 0 l.length cap) l:=
 Or.inr ⟨id,cap,ty,ext,rfl,hc,hf⟩
section
variable {c o:Nat}{vs:AV}{zs:List Int}{a:Int}{st0 st:St}{g:AX}{kv:AV}{BV:Nat}{ls:List AV}{ts:TS}{k:Nat}
theorem tN (hv:CZ vs zs)(ha:0<=a/\a<100000)(H:GS c o vs a st0 st g kv BV ls)(hs:g.Small)(h0:ts.get 0=.AO o 0)(h3:ts.get 3=.AO (c+1) 0){i:Nat}(hi:i<ls.length)(h4:ts.get 4=.int .i64 (i:Int)) :
 (Ar E (AU E (k+3)) C.f6L2 ts st).to (Gg c o vs a st0 ts):=by
 obtain⟨hr,w,hli,hw⟩:=H.KP hi
 have hrid:=H.m.MW
 have hoc:=H.k.oc
 have hcc:=H.cc
 have hb':∀p x,(p,x)∈st.h->p<st.c:=H.k.hb
 have K0:=H.k.cons (p:=st.c) (x:=.cells 9 1 [.str g.rules[i].left] false) (n:=st.c+1) (by omega) (by omega) (by omega)
 have K1:=K0.cons (p:=st.c+1) (x:=.cells 3 1 [.int .i64 20,.int .i64 21] false) (n:=st.c+2) (by omega) (by omega) (by show st.c+1<=st.c+2; omega)
 have hb0:∀p x,(p,x)∈(st.c,Ai.cells 9 1 [.str g.rules[i].left] false)::st.h->p<st.c+1:=K0.hb
 have hf1:AA ((st.c+1,Ai.cells 3 1 [.int .i64 20,.int .i64 21] false)::(st.c,Ai.cells 9 1 [.str g.rules[i].left] false)::st.h) (st.c+1)=some (.cells 3 1 [.int .i64 20,.int .i64 21] false):=by simp[AL]
 have hsome:=iY (k:=k) K1.st hv (by omega) (IQ (cap:=some 2) hf1 (show st.c+1≠o by omega)) (by simp) (by simp)
 obtain⟨n,hnx,hn⟩:∃n:Nat,[AV.int .i64 20,.int .i64 21].getD (Bd zs (a+1) [AV.int .i64 20,.int .i64 21].length).toNat .undef=.int .i64 (n:Int)/\(n=20∨n=21):=by
  have:=IW (zs:=zs) (a:=a) (l:=[AV.int .i64 20,.int .i64 21]) (by simp)
  generalize List.getD _ _ _=x at this
  simp only[List.mem_cons,List.not_mem_nil,or_false] at this
  rcases this with rfl|rfl
  ·exact⟨20,rfl,.inl rfl⟩
  ·exact⟨21,rfl,.inr rfl⟩
 rw[hnx] at hsome
 have K2:=K1.tick (a+1)
 generalize hS2:tick ⟨(st.c+1,Ai.cells 3 1 [.int .i64 20,.int .i64 21] false)::(st.c,Ai.cells 9 1 [.str g.rules[i].left] false)::st.h,st.c+2,st.lo⟩ o vs (a+1)=S2 at K2 hsome
 have hS2c:S2.c=st.c+2:=by rw[← hS2]; rfl
 have hfr:∀p,p<st.c->p≠o->AA S2.h p=AA st.h p:=fun p h1 h2=>by
  rw[← hS2,DK K1.GX h2]; simp[AL,show ¬st.c=p by omega,show ¬st.c+1=p by omega]
 have he2:AA S2.h st.c=some (.cells 9 1 [.str g.rules[i].left] false):=by
  rw[← hS2,DK K1.GX (by omega)]; simp[AL]
 have hrep:=iT (k:=k) (st:=S2) K2.hb (by rw[K2.lo]; have:=H.k.Np; omega) he2 (by omega) hn
 have K3:=K2.cons (p:=S2.c) (x:=.cells 9 1 (List.replicate n (.str g.rules[i].left)) false) (n:=S2.c+1) (by omega) (by omega) (by omega)
 have hfr3:∀p,p<st.c->p≠o->AA ((S2.c,Ai.cells 9 1 (List.replicate n (.str g.rules[i].left)) false)::S2.h) p=AA st.h p:=fun p h1 h2=>by
  rw[AL,if_neg (by omega)]; exact hfr p h1 h2
 have hr3:AA ((S2.c,Ai.cells 9 1 (List.replicate n (.str g.rules[i].left)) false)::S2.h) BV=some (.cells 68 3 (ls.flatMap AV.cells) true):=by rw[hfr3 BV (by omega) (by omega)]; exact H.m.rules
 have hr2:AA S2.h BV=some (.cells 68 3 (ls.flatMap AV.cells) true):=by rw[hfr BV (by omega) (by omega)]; exact H.m.rules
 have hg2:AA S2.h (c+1)=some (.cells 29 3 [kv,.str g.start,.AQ BV 0 ls.length none] false):=by rw[hfr _ (by omega) (by omega)]; exact H.Nv
 have hg3:AA ((S2.c,Ai.cells 9 1 (List.replicate n (.str g.rules[i].left)) false)::S2.h) (c+1)=some (.cells 29 3 [kv,.str g.start,.AQ BV 0 ls.length none] false):=by rw[hfr3 _ (by omega) (by omega)]; exact H.Nv
 have hlen3:(ls.flatMap AV.cells).length=ls.length*3:=BD H.m.three
 have hget:=Gn H.m.three (show ls[i]?=some (.agg [.str g.rules[i].left,w,.int .i64 g.rules[i].level]) by rw[List.getElem?_eq_getElem hi,hli])
 have hsto:=BX (st:=⟨(S2.c,.cells 9 1 (List.replicate n (.str g.rules[i].left)) false)::S2.h,S2.c+1,S2.lo⟩) (off:=3*i+1) (v:=.AQ S2.c 0 n (some n)) hr3 (by show S2.lo<=BV; rw[K2.lo]; have:=H.k.Np; omega) (by rw[hlen3]; omega) rfl rfl
 rw[Jb H.m.three (show ls[i]?=some (.agg [.str g.rules[i].left,w,.int .i64 g.rules[i].level]) by rw[List.getElem?_eq_getElem hi,hli])] at hsto
 have hl1:AP st.h (.AO (c+1) 2)=some (.AQ BV 0 ls.length none):=by rw[AB H.Nv]; rfl
 have hl2:AP S2.h (.AO (c+1) 2)=some (.AQ BV 0 ls.length none):=by rw[AB hg2]; rfl
 have hl3:AP ((S2.c,Ai.cells 9 1 (List.replicate n (.str g.rules[i].left)) false)::S2.h) (.AO (c+1) 2)=some (.AQ BV 0 ls.length none):=by rw[AB hg3]; rfl
 have hl5:AP st.h (.AO BV (3*i))=some (.str g.rules[i].left):=by rw[AB H.m.rules]; exact hget.1
 have hl6:AP S2.h (.AO BV (3*i))=some (.str g.rules[i].left):=by rw[AB hr2]; exact hget.1
 have hix:∀n,Aa 3 (.AQ BV 0 ls.length none) (.int .i64 (i:Int)) ⟨st.h,n,st.lo⟩=some (.AO BV (3*i),⟨st.h,n,st.lo⟩):=fun n=>RQ (st:=⟨st.h,n,st.lo⟩) H.m.rules hi
 have hix3:∀m l,Aa 3 (.AQ BV 0 ls.length none) (.int .i64 (i:Int)) ⟨(S2.c,.cells 9 1 (List.replicate n (.str g.rules[i].left)) false)::S2.h,m,l⟩=some (.AO BV (3*i),⟨(S2.c,.cells 9 1 (List.replicate n (.str g.rules[i].left)) false)::S2.h,m,l⟩):=fun m l=>RQ (st:=⟨_,m,l⟩) hr3 hi
 simp at hsome
 simp[C.f6L2,h0,h3,h4,De,Dx,Cf,CV,Cv,Jr,hl1,hl2,hl3,hl5,hl6,hix,RQ hr2 hi,AV.Cx,Ay,blt_eq,beq_eq,ble_eq,BB,BM,AV.isTuple,AV.cells,Ac hb',Ac hb0,hsome,hrep,hix3,hsto,Gg]
 have hfin:∀p,p<st.c->p≠o->p≠BV->∀y,AA (Ab ((S2.c,Ai.cells 9 1 (List.replicate n (.str g.rules[i].left)) false)::S2.h) BV y) p=AA st.h p:=fun p h1 h2 h3 y=>by
  rw[AR hr3,if_neg (Ne.symm h3)]; exact hfr3 p h1 h2
 refine⟨_,1,by omega,by omega,H.Rc hs (a':=a+1) hi (r':=⟨g.rules[i].left,List.replicate n g.rules[i].left,g.rules[i].level⟩) (v':=.agg [.str g.rules[i].left,.AQ S2.c 0 n (some n),.int .i64 g.rules[i].level]) (K3.Ab (by omega) hr3) (by show c+2<=S2.c+1; omega) ?_ ?_ ?_ (fun p hp=>?_) (fun p h1 h2 h5=>?_) ?_ ?_⟩
 ·show AA (Ab _ _ _) (c+1)=_
  rw[AR hr3,if_neg (by omega)]; exact hg3
 ·exact hfin c (by omega) (by omega) (by omega) _
 ·show AA (Ab _ _ _) BV=_
  rw[AR hr3,if_pos rfl]
 ·have:=H.PG hp
  exact hfin p (by omega) (by omega) (by omega) _
 ·exact hfin p (by omega) (by omega) (by omega) _
 ·refine⟨_,rfl,?_⟩
  have:=OZ.uI (c:=c) (id:=S2.c) (l:=List.replicate n g.rules[i].left) (cap:=some n) (ty:=9) (ext:=false) (h:=Ab ((S2.c,Ai.cells 9 1 (List.replicate n (.str g.rules[i].left)) false)::S2.h) BV (.cells 68 3 ((ls.set i (.agg [.str g.rules[i].left,.AQ S2.c 0 n (some n),.int .i64 g.rules[i].level])).flatMap AV.cells) true)) (by
   rw[AR hr3,if_neg (by omega)]; simp[AL,strs]) (by omega)
  simpa using this
 ·have:=hs.rules _ (List.getElem_mem hr)
  refine⟨this.left,by simp; omega,fun x hx=>?_,this.level⟩
  rw[List.eq_of_mem_replicate hx]; exact this.left
end
def HO (st:St):Prop:=∀p x,(p,x)∈st.h->Ai.Bw st.c x=true
theorem Ze {st:St}{o:Nat}{y:Ai}(hn:AA st.h o=none):∃h',newObj o y st=some { st with h:=h' }/\(∀p,AA h' p=if o=p then some y else AA st.h p)/\∀p x,(p,x)∈h'->(p=o/\x=y)∨(p,x)∈st.h:=by
 have key:∀h:Af,AA h o=none->∃h',Lx h o y=some h'/\∀p x,(p,x)∈h'->(p=o/\x=y)∨(p,x)∈h:=by
  intro h
  induction h with
  |nil=>intro _; exact⟨[(o,y)],rfl,fun p x hm=>by simp at hm; exact .inl hm⟩
  |cons q h ih=>
   obtain⟨i,z⟩:=q
   intro hn
   rw[AL] at hn
   simp only[Lx,blt_eq,beq_eq,cond_eq_ite,decide_eq_true_eq]
   by_cases h1:i<o
   ·rw[if_pos h1]
    exact⟨_,rfl,fun p x hm=>by
     rcases List.mem_cons.1 hm with h2|h2
     ·cases h2; exact .inl ⟨rfl,rfl⟩
     ·exact .inr h2⟩
   ·rw[if_neg h1]
    by_cases h2:i=o
    ·rw[if_pos h2] at hn; cases hn
    ·rw[if_neg h2] at hn ⊢
     obtain⟨h',e1,e2⟩:=ih hn
     rw[e1]
     exact⟨_,rfl,fun p x hm=>by
      rcases List.mem_cons.1 hm with h3|h3
      ·cases h3; exact .inr (by simp)
      ·rcases e2 p x h3 with h4|h4
       ·exact .inl h4
       ·exact .inr (by simp[h4])⟩
 obtain⟨h',e1,e2⟩:=key st.h hn
 exact⟨h',by unfold newObj; rw[e1],fun p=>Hz e1 p,e2⟩
theorem IP {c:Nat}{h:Af}{p:Nat}{x:Ai}(hm:(p,x)∈Gu c h):(p,x)∈h/\p<c:=by
 induction h with
 |nil=>simp[Gu] at hm
 |cons q h ih=>
  obtain⟨i,z⟩:=q
  simp only[Gu,ble_eq,cond_eq_ite,decide_eq_true_eq] at hm
  by_cases e:c<=i
  ·rw[if_pos e] at hm
   have:=ih hm
   exact⟨by simp[this.1],this.2⟩
  ·rw[if_neg e] at hm
   rcases List.mem_cons.1 hm with h1|h1
   ·cases h1; exact⟨by simp,by omega⟩
   ·have:=ih h1
    exact⟨List.mem_cons_of_mem _ this.1,this.2⟩
theorem holds_of {c:Nat}:∀{h:Af},(∀p x,(p,x)∈h->p<c/\Ai.Bw c x=true)->holds c h=true
 |[],_=>rfl
 |(i,x)::h,H=>by
  have h1:=H i x (by simp)
  have h2:=holds_of (h:=h) fun p y hm=>H p y (List.mem_cons_of_mem _ hm)
  simp[holds,blt_eq,h1.1,h1.2,h2]
theorem jV {v:AV}{zs:List Int}(hv:CZ v zs)(c:Nat):v.Bw c=true:=by
 rcases hv.sl.out with⟨rfl,_⟩|⟨t,rfl⟩
 ·rfl
 ·show AV.CL c _=true
  clear hv
  induction zs with
  |nil=>rfl
  |cons z zs ih=>simpa [AV.CL,AV.Bw] using ih
section
variable {c o:Nat}{vs:AV}{zs:List Int}{a:Int}{st0 st:St}{g:AX}
theorem CW.pU (K:CW c o vs a st0 st)(hc:c=st0.c)(hv:CZ vs zs)(ho:HO st0):∀p x,(p,x)∈st.h->p<c->Ai.Bw c x=true:=fun p x hm hp=>by
 rcases K.mem p x hm hp with h|⟨_,b,rfl⟩
 ·rw[hc]; exact ho p x h
 ·simp[Ai.Bw,AV.CL,jV hv,AV.Bw]
theorem CW.drop (K:CW c o vs a st0 st):CW c o vs a st0 { st with h:=Gu c st.h,c:=c } where
 hb:=fun p x hm=>(IP hm).2
 lo:=K.lo
 Np:=K.Np
 oc:=K.oc
 GX:=by show AA (Gu c st.h) o=_; rw[JF K.oc]; exact K.GX
 Bw:=fun p hp hne=>by show AA (Gu c st.h) p=_; rw[JF hp]; exact K.Bw p hp hne
 mem:=fun p x hm hp=>K.mem p x (IP hm).1 hp
theorem CW.ho (K:CW c o vs a st0 st)(hc:c=st0.c)(hs:st.c=c)(hv:CZ vs zs)(ho:HO st0):HO st:=fun p x hm=>by
 rw[hs]; exact K.pU hc hv ho p x hm (by rw[← hs]; exact K.hb p x hm)
theorem Wx (K:CW c o vs a st0 st)(hc:c=st0.c)(hv:CZ vs zs)(ho:HO st0){kv rv:AV}{ls:List AV}(hk:OZ c st.h kv g.kinds)(hr:CU c st.h ls g.rules)(hrv:(rv=.AJ/\g.rules=[])∨∃p cap ty ext rest,rv=.AQ p 0 ls.length cap/\c<p/\AA st.h p=some (.cells ty 3 (ls.flatMap AV.cells++rest) ext)) :
 ∃v,Gz c (.agg [kv,.str g.start,rv],st)=.ret (v,{ st with h:=Gu c st.h,c:=c })/\BP v g:=by
 obtain⟨v,h1,h2⟩:=QO hk hr hrv Bu (by decide)
 refine⟨v,?_,h2⟩
 have hh:holds c (Gu c st.h)=true:=holds_of fun p x hm=>⟨(IP hm).2,K.pU hc hv ho p x (IP hm).1 (IP hm).2⟩
 unfold Gz
 simp only[h1,hh,cond_true]
end
end Go.Am
section
namespace Go.Am
open Go
structure cZ (g:AX):Prop where
 small:g.Small
 kinds:g.kinds.length<=9
 many:g.rules.length<=11
 some:0<g.rules.length
 pO:∀r∈g.rules,r.right.length<=29
def Pk (k:Nat):Prop:=∀(st:St) (o:Nat) (vs:AV) (zs:List Int) (a:Int),Ko st o vs a->CZ vs zs->0<=a->a<10000->o<st.c->st.lo<=o->HB st->HO st ->
 ∃v g m st',AU E k 41 [.AO o 0] st=.ret (v,st')/\st'.c=st.c/\CW st.c o vs (a+m) st st'/\BP v g/\cZ g/\0<=m/\m<=100
theorem CW.begin {st:St}{o:Nat}{vs:AV}{a:Int}(hs:Ko st o vs a)(ho:o<st.c)(hb:HB st):CW st.c o vs a st st:=
 ⟨hb,rfl,hs.lo,ho,hs.at_,fun _ _ _=>rfl,fun _ _ h _=>.inl h⟩
 mutual
theorem AV.Ot {c d:Nat} (h:c<=d):∀v:AV,v.Bw c=true->v.Bw d=true
 |.AO o _,e=>by simp[AV.Bw,blt_eq] at e ⊢; omega
 |.AQ o _ _ _,e=>by simp[AV.Bw,blt_eq] at e ⊢; omega
 |.Bv o,e=>by simp[AV.Bw,blt_eq] at e ⊢; omega
 |.BC cs,e=>by simp only[AV.Bw] at e ⊢; exact AV.FH h cs e
 |.agg cs,e=>by simp only[AV.Bw] at e ⊢; exact AV.FH h cs e
 |.tuple cs,e=>by simp only[AV.Bw] at e ⊢; exact AV.FH h cs e
 |.list _ _ cs,e=>by simp only[AV.Bw] at e ⊢; exact AV.FH h cs e
 |.GM a b,e=>by simp only[AV.Bw,Bool.and_eq_true] at e ⊢; exact⟨AV.FH h a e.1,AV.FH h b e.2⟩
 |.fn _ a b,e=>by simp only[AV.Bw,Bool.and_eq_true] at e ⊢; exact⟨AV.FH h a e.1,AV.FH h b e.2⟩
 |.iface _ v,e=>by simp only[AV.Bw] at e ⊢; exact AV.Ot h v e
 |.bool _,_=>rfl
 |.int _ _,_=>rfl
 |.str _,_=>rfl
 |.Cs,_=>rfl
 |.AJ,_=>rfl
 |.Dl,_=>rfl
 |.GD,_=>rfl
 |.FV,_=>rfl
theorem AV.FH {c d:Nat} (h:c<=d):∀l:List AV,AV.CL c l=true->AV.CL d l=true
 |[],_=>rfl
 |v::l,e=>by simp only[AV.CL,Bool.and_eq_true] at e ⊢; exact⟨AV.Ot h v e.1,AV.FH h l e.2⟩
end
theorem Ai.Ot {c d:Nat}(h:c<=d)(x:Ai)(e:Ai.Bw c x=true):Ai.Bw d x=true:=by
 cases x with
 |cells ty sz cs ext=>exact AV.FH h cs e
 |map ks vs bs cl=>simp only[Ai.Bw,Bool.and_eq_true] at e ⊢; exact⟨AV.FH h ks e.1,AV.FH h vs e.2⟩
 |iter m s l t=>cases m with
  |none=>rfl
  |some o=>simp only[Ai.Bw,blt_eq,decide_eq_true_eq] at e ⊢; omega
section
variable {k:Nat}{o:Nat}{vs:AV}{zs:List Int}{a:Int}{st:St}
theorem gK (hR:Pk (k+5))(hs:Ko st o vs a)(hv:CZ vs zs)(ha:0<=a/\a<10000)(ho:o<st.c)(hb:HB st)(hh:HO st)(hlo:st.lo<=o) :
 ∃v0 v1 g m kv BV ls st1 st2 st3 h3,AU E (k+5) 41 [.AO o 0] ⟨(st.c,.cells 29 3 [.AJ,.str [],.AJ] false)::st.h,st.c+2,st.lo⟩=.ret (v0,st1) /\
  AU E (k+5) 40 [v0] st1=.ret (.agg [kv,.str g.start,.AQ BV 0 ls.length none],st2) /\
  newObj (st.c+1) (.cells 29 3 [.AJ,.str [],.AJ] false) st2=some { st2 with h:=h3 } /\
  Bc 3 (.AO (st.c+1) 0) (.agg [kv,.str g.start,.AQ BV 0 ls.length none]) { st2 with h:=h3 }=some (v1,st3) /\
  GS st.c o vs (a+m) st st3 g kv BV ls/\cZ g/\0<=m/\m<=100:=by
 have hS1b:HB ⟨(st.c,.cells 29 3 [.AJ,.str [],.AJ] false)::st.h,st.c+2,st.lo⟩:=fun p x hx=>by
  show p<st.c+2
  rcases List.mem_cons.1 hx with h|h
  ·cases h; omega
  ·have:=hb p x h; omega
 have hoS:∀n,AA ((st.c,Ai.cells 29 3 [.AJ,.str [],.AJ] false)::st.h) n=if st.c=n then some (.cells 29 3 [.AJ,.str [],.AJ] false) else AA st.h n:=fun n=>AL _ _ _ _
 have hS1s:Ko ⟨(st.c,.cells 29 3 [.AJ,.str [],.AJ] false)::st.h,st.c+2,st.lo⟩ o vs a:=⟨by rw[hoS,if_neg (by omega)]; exact hs.at_,hs.lo⟩
 have hS1o:HO ⟨(st.c,.cells 29 3 [.AJ,.str [],.AJ] false)::st.h,st.c+2,st.lo⟩:=fun p x hx=>by
  rcases List.mem_cons.1 hx with h|h
  ·cases h; rfl
  ·exact Ai.Ot (by show st.c<=st.c+2; omega) x (hh p x h)
 obtain⟨v0,g,m,st1,e1,hc1,K1,hg,hr,hm0,hm1⟩:=hR _ o vs zs a hS1s hv ha.1 ha.2 (by show o<st.c+2; omega) hlo hS1b hS1o
 have hc1':st1.c=st.c+2:=hc1
 have hlo1:st1.lo=st.lo:=K1.lo
 obtain⟨kv,BV,ls,st2,e2,hm,hgr⟩:=aG (k:=k+3) hg hr.small hr.some K1.hb (by rw[hlo1]; omega)
 rw[hc1'] at hm
 have hold2:∀p,p<st.c+2->AA st2.h p=AA st1.h p:=fun p hp=>hgr.Bw p (by omega)
 have hold1:∀p,p<st.c+2->p≠o->AA st1.h p=AA ((st.c,Ai.cells 29 3 [.AJ,.str [],.AJ] false)::st.h) p:=fun p hp hne=>K1.Bw p hp hne
 have hnone:AA st2.h (st.c+1)=none:=by
  rw[hold2 _ (by omega),hold1 _ (by omega) (by omega),hoS,if_neg (by omega)]
  exact Nt hb (by omega)
 obtain⟨h3,e3,f3,m3⟩:=Ze (y:=.cells 29 3 [.AJ,.str [],.AJ] false) hnone
 have hg3:AA h3 (st.c+1)=some (.cells 29 3 [.AJ,.str [],.AJ] false):=by rw[f3,if_pos rfl]
 have e4:=Cq (st:={ st2 with h:=h3 }) (n:=3) (vs:=[kv,.str g.start,.AQ BV 0 ls.length none]) hg3 (by show st2.lo<=st.c+1; rw[hgr.lo,hlo1]; omega) rfl rfl
 refine⟨v0,_,g,m,kv,BV,ls,st1,st2,_,h3,e1,e2,e3,e4,?_,hr,hm0,hm1⟩
 have hrid:=hm.MW
 have hc2:st.c+2<=st2.c:=by have:=hgr.c; omega
 have hfin:∀p,p≠st.c+1->AA (Ab h3 (st.c+1) (.cells 29 3 [kv,.str g.start,.AQ BV 0 ls.length none] false)) p=AA st2.h p:=fun p hp=>by
  rw[AR hg3,if_neg (Ne.symm hp),f3,if_neg (Ne.symm hp)]
 have hstrm2:AA st2.h o=some (.cells 25 2 [vs,.int .i64 (a+m)] false):=by rw[hold2 o (by omega)]; exact K1.GX
 refine⟨⟨fun p x hx=>?_,hgr.lo.trans hlo1,hs.lo,ho,?_,fun p hp hne=>?_,fun p x hx hp=>?_⟩,hc2,?_,?_,⟨hm.kinds.heap fun p hp=>?_,hm.oI,hrid,?_,hm.ln,fun j hl hr=>⟨(hm.each j hl hr).1.heap fun p hp=>?_,(hm.each j hl hr).2⟩,hm.inj,hm.three⟩⟩
 ·show p<st2.c
  obtain⟨x',h'⟩:=JW hx
  rcases m3 p x' h' with h|h
  ·omega
  ·exact hgr.hb p x' h
 ·show AA (Ab h3 (st.c+1) _) o=_
  rw[hfin o (by omega)]; exact hstrm2
 ·show AA (Ab h3 (st.c+1) _) p=_
  rw[hfin p (by omega),hold2 p (by omega),hold1 p (by omega) hne,hoS,if_neg (by omega)]
 ·rcases Gj hx with h|h
  ·omega
  rcases m3 p x h with h|h
  ·omega
  have h:=hgr.mem p x h (by omega)
  rcases K1.mem p x h (by omega) with h|h
  ·rcases List.mem_cons.1 h with h|h
   ·cases h; omega
   ·exact .inl h
  ·exact .inr h
 ·show AA (Ab h3 (st.c+1) _) (st.c+1)=_
  rw[AR hg3,if_pos rfl]
 ·show AA (Ab h3 (st.c+1) _) st.c=_
  rw[hfin _ (by omega),hold2 _ (by omega),hold1 _ (by omega) (by omega),hoS,if_pos rfl]
 ·have:=hm.oI p hp
  show AA (Ab h3 (st.c+1) _) p=_
  exact hfin p (by omega)
 ·show AA (Ab h3 (st.c+1) _) BV=_
  rw[hfin _ (by omega)]; exact hm.rules
 ·have:=(hm.each j hl hr).2 p hp
  show AA (Ab h3 (st.c+1) _) p=_
  exact hfin p (by omega)
end
end Go.Am
end
namespace Go.Am
open Go
section
variable {c o:Nat}{vs:AV}{zs:List Int}{a:Int}{st0 st:St}{g:AX}
theorem kI (F:GF c o vs a st0 st g)(hc:c=st0.c)(hv:CZ vs zs)(ho:HO st0) :
 ∃kv rv v st' st2,AZ st.h (.AO (c+1) 0) 3=some [kv,.str g.start,rv]/\Bc 3 (.AO c 0) (.agg [kv,.str g.start,rv]) st=some (.undef,st') /\
  AZ st'.h (.AO c 0) 3=some [kv,.str g.start,rv]/\Gz c (.agg [kv,.str g.start,rv],st')=.ret (v,st2)/\st2.c=c/\CW c o vs a st0 st2/\BP v g:=by
 obtain⟨kv,rv,ls,hg,hk,hr,hrv⟩:=F.Nv
 have hlo:st.lo<=c:=by rw[F.k.lo]; have:=F.k.Np; have:=F.k.oc; omega
 have hsto:=Cq (n:=3) (vs:=[kv,.str g.start,rv]) F.bF hlo rfl rfl
 have K2:=F.k.Ab (p:=c) (x:=.cells 29 3 [kv,.str g.start,rv] false) (Nat.le_refl _) F.bF
 have hf:∀p,c<p->AA (Ab st.h c (.cells 29 3 [kv,.str g.start,rv] false)) p=AA st.h p:=fun p hp=>by rw[AR F.bF,if_neg (by omega)]
 obtain⟨v,e1,e2⟩:=Wx (g:=g) (kv:=kv) (rv:=rv) (ls:=ls) K2 hc hv ho (hk.frame hf) (hr.frame hf) (by
  rcases hrv with h|⟨p,cap,ty,ext,rest,h1,h2,h3⟩
  ·exact .inl h
  ·exact .inr ⟨p,cap,ty,ext,rest,h1,h2,(hf p h2).trans h3⟩)
 exact⟨kv,rv,v,_,_,Ae hg rfl,hsto,Ae (by show AA (Ab _ _ _) c=_; rw[AR F.bF,if_pos rfl]) rfl,e1,rfl,K2.drop,e2⟩
theorem CW.to {b:Int}(K:CW c o vs a st0 st)(e:a=b):CW c o vs b st0 st:=by subst e; exact K
theorem GS.tick {kv:AV}{BV:Nat}{ls:List AV}(H:GS c o vs a st0 st g kv BV ls)(b:Int):GS c o vs b st0 (tick st o vs b) g kv BV ls:=by
 have hf:∀p,p≠o->AA (Am.tick st o vs b).h p=AA st.h p:=fun p hp=>DK H.k.GX hp
 have hoc:=H.k.oc
 have hrid:=H.m.MW
 exact⟨H.k.tick b,H.cc,by rw[hf _ (by omega)]; exact H.Nv,by rw[hf _ (by omega)]; exact H.bF,
  ⟨H.m.kinds.heap fun p hp=>hf p (by have:=(H.m.oI p hp).1; omega),H.m.oI,H.m.MW,by rw[hf _ (by omega)]; exact H.m.rules,H.m.ln,
   fun j hl hr=>⟨(H.m.each j hl hr).1.heap fun p hp=>hf p (by have:=((H.m.each j hl hr).2 p hp).1; omega),(H.m.each j hl hr).2⟩,H.m.inj,H.m.three⟩⟩
theorem GS.lX {kv:AV}{BV:Nat}{ls:List AV}(H:GS c o vs a st0 st g kv BV ls)(hs:g.Small) :
 ∃st',Bc 1 (.AO (c+1) 2) .AJ st=some (.undef,st')/\GF c o vs a st0 st' { g with rules:=[] }:=by
 have hlo:st.lo<=c+1:=by rw[H.k.lo]; have:=H.k.Np; have:=H.k.oc; omega
 have hrid:=H.m.MW
 have hsto:=BX (off:=2) (v:=.AJ) H.Nv hlo (by simp) rfl rfl
 refine⟨_,hsto,H.k.Ab (by omega) H.Nv,H.cc,by show AA (Ab _ _ _) c=_; rw[AR H.Nv,if_neg (by omega)]; exact H.bF,⟨hs.kinds,hs.names,hs.start,by simp,by simp⟩,kv,.AJ,[],by show AA (Ab _ _ _) (c+1)=_; rw[AR H.Nv,if_pos rfl]; rfl,H.OE fun p hp=>?_,.nil,.inl ⟨rfl,rfl⟩⟩
 have:=H.PG hp
 show AA (Ab _ _ _) p=_
 rw[AR H.Nv,if_neg (by omega)]
theorem GS.lY {kv:AV}{BV:Nat}{ls:List AV}(H:GS c o vs a st0 st g kv BV ls)(hs:g.Small) :
 ∃st',Bc 1 (.AO (c+1) 0) .AJ st=some (.undef,st')/\GF c o vs a st0 st' { g with kinds:=[] }:=by
 have hlo:st.lo<=c+1:=by rw[H.k.lo]; have:=H.k.Np; have:=H.k.oc; omega
 have hrid:=H.m.MW
 have hsto:=BX (off:=0) (v:=.AJ) H.Nv hlo (by simp) rfl rfl
 refine⟨_,hsto,H.k.Ab (by omega) H.Nv,H.cc,by show AA (Ab _ _ _) c=_; rw[AR H.Nv,if_neg (by omega)]; exact H.bF,⟨by simp,by simp,hs.start,hs.many,hs.rules⟩,.AJ,_,ls,by show AA (Ab _ _ _) (c+1)=_; rw[AR H.Nv,if_pos rfl]; rfl,.inl ⟨rfl,rfl⟩,H.Oo fun p h1 h2=>?_,.inr ⟨BV,none,68,true,[],rfl,by omega,?_⟩⟩
 ·show AA (Ab _ _ _) p=_
  rw[AR H.Nv,if_neg (by omega)]
 ·show AA (Ab _ _ _) BV=_
  rw[AR H.Nv,if_neg (by omega),List.append_nil]; exact H.m.rules
end
section
variable {k:Nat}{o:Nat}{vs:AV}{zs:List Int}{a:Int}{st:St}
theorem nR (hR:Pk (k+5))(hs:Ko st o vs a)(hv:CZ vs zs)(ha:0<=a/\a<10000)(ho:o<st.c)(hb:HB st)(hh:HO st)(hlo:st.lo<=o) :
 ∃v g m st',AU E (k+6) 6 [.AO o 0] st=.ret (v,st')/\st'.c=st.c/\CW st.c o vs (a+m) st st'/\BP v g/\g.Small/\0<=m/\m<=200:=by
 obtain⟨v0,v1,g,m,kv,BV,ls,st1,st2,st3,h3,e1,e2,e3,e4,H,hr,hm0,hm1⟩:=gK hR hs hv ha ho hb hh hlo
 rw[UE (fn:=C.f6) rfl rfl rfl,Ad (by simp)]
 have hb':∀p x,(p,x)∈st.h->p<st.c:=hb
 have hflip:=TH (k:=k+2) H.k.st hv (by omega) (n:=5) (by unfold Nl; omega)
 have H4:=H.tick (a+m+1)
 have hnext:=KA (k:=k+3) H4.k.st hv (by omega) (n:=(ls.length:Int)) (by unfold Nl; have:=hr.many; have:=H.m.ln; omega)
 have H5:=H4.tick (a+m+1+1)
 have hnext2:=KA (k:=k+3) H5.k.st hv (by omega) (n:=10) (by unfold Nl; omega)
 have H6:=H5.tick (a+m+1+1+1)
 have hln:=H.m.ln
 have hsome:=hr.some
 have hmany:=hr.many
 have hi:=DX (zs:=zs) (a:=a+m+1+1) (n:=(ls.length:Int)) (by omega)
 have hd:=DX (zs:=zs) (a:=a+m+1+1+1) (n:=10) (by omega)
 obtain⟨i,hie⟩:∃i:Nat,Bd zs (a+m+1+1) (ls.length:Int)=i:=⟨(Bd zs (a+m+1+1) (ls.length:Int)).toNat,by omega⟩
 rw[hie] at hnext
 have hil:i<ls.length:=by omega
 have hl1:AP (tick st3 o vs (a+m+1)).h (.AO (st.c+1) 2)=some (.AQ BV 0 ls.length none):=by rw[AB H4.Nv]; rfl
 have goal:((Ar E (AU E (k+5)) C.f6.body (TS.CY [.AO o 0] 0 .nil) st).bind (leave C.f6.results)).to fun r=>∃v g m st',Gz st.c r=.ret (v,st')/\st'.c=st.c/\CW st.c o vs (a+m) st st'/\BP v g/\g.Small/\0<=m/\m<=200:=by
  have hg0:(k+5)=(k+2)+3:=rfl
  have fin:∀(q:Nat) (ts:TS) (S:St) (b:Int) (g':AX) (mm:Int),q≠2->q<65535->GF st.c o vs b st S g'->b=a+mm->0<=mm->mm<=200->ts.get 2=.AO st.c 0->ts.get 3=.AO (st.c+1) 0 ->
   (((M.CX (FJ S ((AZ S.h (.AO (st.c+1) 0) 3).map .agg))).bind fun x=>(M.CX (Bc 3 (.AO st.c 0) x.1 x.2)).bind fun y=>leave [.cell 2 (some 3)] (.ret,ts.set q x.1,y.2))).to fun r=>∃v g m st',Gz st.c r=.ret (v,st')/\st'.c=st.c/\CW st.c o vs (a+m) st st'/\BP v g/\g.Small/\0<=m/\m<=200:=by
   intro q ts S b g' mm hq1 hq2 F hbm hmm0 hmm1 h2 h3
   obtain⟨kv',rv',v',st',st2',r1,r2,r3,r4,r5,r6,r7⟩:=kI F rfl hv hh
   simp[r1,r2,leave,results,AY,hq1,hq2,h2,r3]
   exact⟨v',g',mm,st2',r4,r5,r6.to hbm,r7,F.small,hmm0,hmm1⟩
  have after:∀(ts:TS) (st':St) (r:Hd × TS × St),Gg st.c o vs (a+m+1+1+1) st ts r->ts.get 2=.AO st.c 0->ts.get 3=.AO (st.c+1) 0->r.1=.normal/\r.2.1.get 2=.AO st.c 0/\r.2.1.get 3=.AO (st.c+1) 0/\∃g' m',0<=m'/\m'<=5/\GF st.c o vs (a+m+1+1+1+m') st r.2.2 g':=fun ts st' r h h2 h3=>⟨h.1,h.2.1.trans h2,h.2.2.1.trans h3,h.2.2.2⟩
  simp[C.f6,Ac hb',e1,e2,e3,e4,hflip]
  by_cases hfl:Bd zs (a+m+1) 5=0
  ·have hfb:(Bd zs (a+m+1) 5==0)=true:=by simp[hfl]
   simp[hfb,hl1,BO,Bq,hnext,hnext2]
   obtain⟨d,hde⟩:∃d:Nat,Bd zs (a+m+1+1+1) 10=d:=⟨(Bd zs (a+m+1+1+1) 10).toNat,by omega⟩
   rw[hde] at hd ⊢
   have hd10:d=0∨d=1∨d=2∨d=3∨d=4∨d=5∨d=6∨d=7∨d=8∨d=9:=by omega
   rcases hd10 with rfl|rfl|rfl|rfl|rfl|rfl|rfl|rfl|rfl|rfl
   ·simp
    refine M.Al (tY (k:=k+2) hv (by omega) H6 hr.small hr.kinds (by simp) (by simp)) fun r hr=>?_
    obtain⟨x,ts',st'⟩:=r
    obtain⟨rfl,h2',h3',g',m',hm0',hm1',F⟩:=after _ st _ hr (by simp) (by simp)
    simp only at h2' h3' F
    simp[h2',h3']
    exact fin 117 ts' st' _ g' (m+1+1+1+m') (by omega) (by omega) F (by omega) (by omega) (by omega) h2' h3'
   ·simp[C.f6L16]
    refine M.Al (tX (k:=k+2) hv (by omega) H6 hr.small (by simp) (by simp)) fun r hr=>?_
    obtain⟨x,ts',st'⟩:=r
    obtain⟨rfl,h2',h3',g',m',hm0',hm1',F⟩:=after _ st _ hr (by simp) (by simp)
    simp only at h2' h3' F
    simp[h2',h3']
    exact fin 117 ts' st' _ g' (m+1+1+1+m') (by omega) (by omega) F (by omega) (by omega) (by omega) h2' h3'
   ·simp[C.f6L16,C.f6L14]
    refine M.Al (tV (k:=k+2) hv (by omega) H6 hr.small (by simp) (by simp) hil (by simp)) fun r hr=>?_
    obtain⟨x,ts',st'⟩:=r
    obtain⟨rfl,h2',h3',g',m',hm0',hm1',F⟩:=after _ st _ hr (by simp) (by simp)
    simp only at h2' h3' F
    simp[h2',h3']
    exact fin 117 ts' st' _ g' (m+1+1+1+m') (by omega) (by omega) F (by omega) (by omega) (by omega) h2' h3'
   ·simp[C.f6L16,C.f6L14,C.f6L12]
    refine M.Al (tT (k:=k+2) hv (by omega) H6 hr.small hr.pO (by simp) (by simp) hil (by simp)) fun r hr=>?_
    obtain⟨x,ts',st'⟩:=r
    obtain⟨rfl,h2',h3',g',m',hm0',hm1',F⟩:=after _ st _ hr (by simp) (by simp)
    simp only at h2' h3' F
    simp[h2',h3']
    exact fin 117 ts' st' _ g' (m+1+1+1+m') (by omega) (by omega) F (by omega) (by omega) (by omega) h2' h3'
   ·simp[C.f6L16,C.f6L14,C.f6L12,C.f6L10]
    refine M.Al (tQ (k:=k+2) hv (by omega) H6 hr.small (by simp) (by simp) hil (by simp)) fun r hr=>?_
    obtain⟨x,ts',st'⟩:=r
    obtain⟨rfl,h2',h3',g',m',hm0',hm1',F⟩:=after _ st _ hr (by simp) (by simp)
    simp only at h2' h3' F
    simp[h2',h3']
    exact fin 117 ts' st' _ g' (m+1+1+1+m') (by omega) (by omega) F (by omega) (by omega) (by omega) h2' h3'
   ·simp[C.f6L16,C.f6L14,C.f6L12,C.f6L10,C.f6L8]
    refine M.Al (tO (k:=k+2) (by omega) H6 hr.small hr.many (by simp) hil (by simp)) fun r hr=>?_
    obtain⟨x,ts',st'⟩:=r
    obtain⟨rfl,h2',h3',g',m',hm0',hm1',F⟩:=after _ st _ hr (by simp) (by simp)
    simp only at h2' h3' F
    simp[h2',h3']
    exact fin 117 ts' st' _ g' (m+1+1+1+m') (by omega) (by omega) F (by omega) (by omega) (by omega) h2' h3'
   ·obtain⟨st',hsto,F⟩:=H6.lX hr.small
    simp[C.f6L16,C.f6L14,C.f6L12,C.f6L10,C.f6L8,C.f6L6,hsto]
    exact fin 117 _ st' _ _ (m+1+1+1) (by omega) (by omega) F (by omega) (by omega) (by omega) (by simp) (by simp)
   ·simp[C.f6L16,C.f6L14,C.f6L12,C.f6L10,C.f6L8,C.f6L6,C.f6L4]
    refine M.Al (tN (k:=k+2) hv (by omega) H6 hr.small (by simp) (by simp) hil (by simp)) fun r hr=>?_
    obtain⟨x,ts',st'⟩:=r
    obtain⟨rfl,h2',h3',g',m',hm0',hm1',F⟩:=after _ st _ hr (by simp) (by simp)
    simp only at h2' h3' F
    simp[h2',h3']
    exact fin 117 ts' st' _ g' (m+1+1+1+m') (by omega) (by omega) F (by omega) (by omega) (by omega) h2' h3'
   ·simp[C.f6L16,C.f6L14,C.f6L12,C.f6L10,C.f6L8,C.f6L6,C.f6L4,C.f6L3]
    refine M.Al (tL (k:=k+2) (by omega) H6 hr.small (by simp) hil (by simp)) fun r hr=>?_
    obtain⟨x,ts',st'⟩:=r
    obtain⟨rfl,h2',h3',g',m',hm0',hm1',F⟩:=after _ st _ hr (by simp) (by simp)
    simp only at h2' h3' F
    simp[h2',h3']
    exact fin 117 ts' st' _ g' (m+1+1+1+m') (by omega) (by omega) F (by omega) (by omega) (by omega) h2' h3'
   ·obtain⟨st',hsto,F⟩:=H6.lY hr.small
    simp[C.f6L16,C.f6L14,C.f6L12,C.f6L10,C.f6L8,C.f6L6,C.f6L4,C.f6L3,hsto]
    exact fin 117 _ st' _ _ (m+1+1+1) (by omega) (by omega) F (by omega) (by omega) (by omega) (by simp) (by simp)
  ·have hfb:(Bd zs (a+m+1) 5==0)=false:=beq_false_of_ne hfl
   simp[hfb,C.f6L0]
   exact fin 11 _ _ _ _ (m+1) (by omega) (by omega) ((H.tick (a+m+1)).fin hr.small) (by omega) (by omega) (by omega) (by simp) (by simp)
 obtain⟨r,h1,v,g',m',st',h2,h3,h4⟩:=goal
 exact⟨v,g',m',st',by rw[h1]; exact h2,h3,h4⟩
end
end Go.Am
