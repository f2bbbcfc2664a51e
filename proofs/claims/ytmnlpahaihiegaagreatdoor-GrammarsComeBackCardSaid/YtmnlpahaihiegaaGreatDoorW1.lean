/- A part of the proof of grammarsComeBack (merged by a program). -/
import Derived.Test.YtmnlpahaihiegaaGreatDoorD
import Derived.Test.YtmnlpahaihiegaaGreatDoorE
import Derived.Test.YtmnlpahaihiegaaGreatDoorC
import Derived.KernelRfl
namespace Go.Am
open Go
def below (x n:Int):Int:=if n<1 then 0 else if x.tmod n<0 then x.tmod n+n else x.tmod n
theorem Vm {x n:Int}(h:1<=n):0<=below x n/\below x n<n:=by
 have h1:=Int.tmod_lt_of_pos x (b:=n) (by omega)
 have h2:-n<x.tmod n:=by
  have:=Int.lt_tmod_of_pos x (b:=n) (by omega)
  omega
 unfold below
 rw[if_neg (by omega)]
 split <;> omega
def MK (n:Int):Prop:=-9223372036854775808<=n/\n<9223372036854775808
theorem Od {k:Nat}{x n:Int}{st:St}(hn:MK n):AX E (k+1) 46 [.int .i64 x,.int .i64 n] st=.ret (.int .i64 (below x n),st):=by
 rw[Ai (fn:=C.f46) rfl rfl rfl,Af (by simp)]
 unfold MK at hn
 by_cases h1:n<1
 ·simp[C.f46,h1,below,leave,results,AR]
 ·have h0:n≠0:=by omega
  have hr:x.tmod n<n:=Int.tmod_lt_of_pos x (by omega)
  have hl:-n<x.tmod n:=Int.lt_tmod_of_pos x (by omega)
  by_cases h2:x.tmod n<0
  ·simp[C.f46,h1,h0,h2,below,leave,results,AR,wrap64 (n:=x.tmod n+n) (by omega) (by omega)]
  ·simp[C.f46,h1,h0,h2,below,leave,results,AR]
structure CB (v:AV)(zs:List Int):Prop where
 sl:Ci v 1 (zs.map (AV.int .i64))
def BK (zs:List Int)(a n:Int):Int:=
 if zs=[] then below (IntKind.i64.wrap (a*7919)) n else
  below (IntKind.i64.wrap (below (zs.getD ((a-1).tmod zs.length).toNat 0) 1073741824+IntKind.i64.wrap (IntKind.i64.wrap ((a-1).tdiv zs.length)*IntKind.i64.wrap (7919+(a-1).tmod zs.length)))) n
theorem Cg {zs:List Int}{a n:Int}(h:1<=n):0<=BK zs a n/\BK zs a n<n:=by
 unfold BK; split <;> exact Vm h
structure Ib (st:St)(o:Nat)(v:AV)(a:Int):Prop where
 at_:AA st.h o=some (.cells 25 2 [v,.int .i64 a] false)
 lo:st.lo<=o
def tick (st:St)(o:Nat)(v:AV)(a:Int):St:={ st with h:=Aa st.h o (.cells 25 2 [v,.int .i64 a] false) }
theorem Ib.tick {st:St}{o:Nat}{v:AV}{a:Int}(h:Ib st o v a)(b:Int):Ib (tick st o v b) o v b:=⟨by simp[Am.tick,AY h.at_],h.lo⟩
theorem OG (st:St)(o:Nat)(v:AV)(a b:Int):tick (tick st o v a) o v b=tick st o v b:=by simp[tick,OX]
theorem FX {k:Nat}{st:St}{o:Nat}{v:AV}{zs:List Int}{a n:Int}(hs:Ib st o v a)(hv:CB v zs)(ha:0<=a/\a<1000000000)(hn:MK n) :
 AX E (k+2) 13 [.AO o 0,.int .i64 n] st=.ret (.int .i64 (BK zs (a+1) n),tick st o v (a+1)):=by
 rw[Ai (fn:=C.f13) rfl rfl rfl,Af (by simp)]
 have hst:∀st',st'.h=st.h->st'.lo=st.lo->BJ 1 (.AO o 1) (.int .i64 (a+1)) st'=some (.undef,{ st' with h:=Aa st.h o (.cells 25 2 [v,.int .i64 (a+1)] false) }):=fun st' h1 h2=>by
  rw[Cr (ty:=25) (sz:=2) (cs:=[v,.int .i64 a]) (ext:=false) (by rw[h1]; exact hs.at_) (by rw[h2]; exact hs.lo) (by simp) rfl rfl,h1]; rfl
 have hf:=hs.at_
 have hf2:∀b,AA (Aa st.h o (.cells 25 2 [v,.int .i64 b] false)) o=some (.cells 25 2 [v,.int .i64 b] false):=fun b=>by rw[AY hs.at_]; simp
 have hr0:∀h x y,AA h o=some (.cells 25 2 [x,y] false)->AP h (.AO o 0)=some x:=fun h x y e=>by simp[AP,e]
 have hr1:∀h x y,AA h o=some (.cells 25 2 [x,y] false)->AP h (.AO o 1)=some y:=fun h x y e=>by simp[AP,e]
 have hw:IntKind.i64.wrap (a+1)=a+1:=wrap64 (by omega) (by omega)
 have hw2:IntKind.i64.wrap a=a:=wrap64 (by omega) (by omega)
 simp[C.f13,hr1 _ _ _ hf,hw,hst,hr0 _ _ _ (hf2 _),hr1 _ _ _ (hf2 _),hv.sl.len]
 by_cases hz:zs=[]
 ·subst hz
  simp[Od hn,BK,tick,leave,results,AR]
 ·have hlen:(zs.length:Int)≠0:=by simpa using hz
  have hlen':zs.length≠0:=by simpa using hz
  have hpos:0<zs.length:=by omega
  have ht0:0<=a.tmod zs.length:=Int.tmod_nonneg _ (by omega)
  have ht1:a.tmod zs.length<zs.length:=Int.tmod_lt_of_pos _ (by omega)
  obtain⟨i,hi⟩:∃i:Nat,a.tmod zs.length=i:=⟨(a.tmod zs.length).toNat,by omega⟩
  have hil:i<zs.length:=by omega
  have hidx:∀st',Ad 1 v (.int .i64 (i:Int)) st'=some (.BN [.int .i64 zs[i]],st'):=fun st'=>by
   rw[hv.sl.idx (by simpa using hil)]; simp[AV.cells]
  simp[beq_false_of_ne hlen,hz,hlen',hw2,hi,hidx,hr0 _ _ _ (hf2 _),hr1 _ _ _ (hf2 _),hv.sl.len,Od (show MK 1073741824 by unfold MK; omega),Od hn,BK,tick,leave,results,AR,hil]
section
variable {k:Nat}{st:St}{o:Nat}{v:AV}{zs:List Int}{a n:Int}
theorem Yz (hs:Ib st o v a)(hv:CB v zs)(ha:0<=a/\a<1000000000){l u:Int}(hl:0<=l)(hu:l<=u)(hb:u<1000000000) :
 AX E (k+3) 14 [.AO o 0,.int .i64 l,.int .i64 u] st=.ret (.int .i64 (l+BK zs (a+1) (u-l+1)),tick st o v (a+1)):=by
 rw[Ai (fn:=C.f14) rfl rfl rfl,Af (by simp)]
 have h1:¬u<l:=by omega
 have hn:MK (u-l+1):=by unfold MK; omega
 have hr:=Cg (zs:=zs) (a:=a+1) (n:=u-l+1) (by omega)
 simp[C.f14,h1,wrap64 (n:=u-l) (by omega) (by omega),wrap64 (n:=u-l+1) (by omega) (by omega),FX hs hv ha hn,wrap64 (n:=l+BK zs (a+1) (u-l+1)) (by omega) (by omega),leave,results,AR]
theorem Ql (hs:Ib st o v a)(hv:CB v zs)(ha:0<=a/\a<1000000000)(hn:MK n) :
 AX E (k+3) 11 [.AO o 0,.int .i64 n] st=.ret (.bool (BK zs (a+1) n==0),tick st o v (a+1)):=by
 rw[Ai (fn:=C.f11) rfl rfl rfl,Af (by simp)]
 simp[C.f11,FX hs hv ha hn,leave,results,AR]
structure Tn (h:Heap)(w:AV)(xs:List AV):Prop where
 len:Bu w=some xs.length
 at_:∀(i:Nat) (hi:i<xs.length) (st:St),(∀p x,AA h p=some x->p≠o->AA st.h p=some x)->∃p,Ad 1 w (.int .i64 i) st=some (p,st)/\AP st.h p=some xs[i]
theorem UD (hs:Ib st o v a)(hv:CB v zs)(ha:0<=a/\a<1000000000){w:AV}{l:List AV}(hw:Tn (o:=o) st.h w l)(h0:0<l.length)(hb:l.length<1000000000)(f:Nat)(fn:Aq)(hc:codeOf f=some fn)(hh:hookOf f=none)(hp:fn.gz=.AZ)(hbody:fn.body=C.f51.body∨fn.body=C.f21.body)(hres:fn.results=[.tmp 4]) :
 AX E (k+3) f [.AO o 0,w] st=.ret (l.getD (BK zs (a+1) l.length).toNat .undef,tick st o v (a+1)):=by
 rw[Ai (fn:=fn) hh hc hp,Af (by simp),hres]
 have hr:=Cg (zs:=zs) (a:=a+1) (n:=l.length) (by omega)
 obtain⟨i,hi⟩:∃i:Nat,BK zs (a+1) l.length=i:=⟨(BK zs (a+1) l.length).toNat,by omega⟩
 have hil:i<l.length:=by omega
 obtain⟨p,hp1,hp2⟩:=hw.at_ i hil (tick st o v (a+1)) (fun q x hq hne=>by simp[tick,AY hs.at_,Ne.symm hne,hq])
 have hlen:∀st',Be .slice w st'=some (.int .i64 l.length,st'):=fun st'=>by simp[Be,hw.len]
 have hn:=FX (k:=k) hs hv ha (n:=l.length) (by unfold MK; omega)
 rcases hbody with h|h
 ·rw[h]; simp[C.f51,hlen,hn,hi,hp1,hp2,leave,results,AR,hil]
 ·rw[h]; simp[C.f21,hlen,hn,hi,hp1,hp2,leave,results,AR,hil]
end
def HB (st:St):Prop:=∀p x,(p,x)∈st.h->p<st.c
theorem Js {h:Heap}{c o:Nat}(hb:∀p x,(p,x)∈h->p<c)(ho:c<=o):AA h o=none:=by
 induction h with
 |nil=>rfl
 |cons q h ih=>
  obtain⟨i,x⟩:=q
  rw[AJ,if_neg (by have:=hb i x (by simp); omega)]
  exact ih fun p y hm=>hb p y (by simp[hm])
theorem bR {h:Heap}{o:Nat}{y:Al}(hb:∀p x,(p,x)∈h->p<o):LZ h o y=some ((o,y)::h):=by
 cases h with
 |nil=>rfl
 |cons q h=>
  obtain⟨i,x⟩:=q
  have:=hb i x (by simp)
  simp[LZ,blt_eq,this]
theorem Ao {h:Heap}{c lo o:Nat}{y:Al}(hb:∀p x,(p,x)∈h->p<o):newObj o y ⟨h,c,lo⟩=some ⟨(o,y)::h,c,lo⟩:=by
 unfold newObj; rw[bR hb]
theorem IQ {h:Heap}{o:Nat}{y:Al}{p:Nat}{x:Al}(hm:(p,x)∈Aa h o y):∃x',(p,x')∈h:=by
 induction h with
 |nil=>simp[Aa] at hm
 |cons q h ih=>
  obtain⟨i,z⟩:=q
  simp only[Aa,beq_eq,cond_eq_ite,decide_eq_true_eq] at hm
  by_cases e:i=o
  ·rw[if_pos e] at hm
   rcases List.mem_cons.1 hm with h1|h1
   ·cases h1; exact⟨z,by simp[e]⟩
   ·exact⟨x,by simp[h1]⟩
  ·rw[if_neg e] at hm
   rcases List.mem_cons.1 hm with h1|h1
   ·cases h1; exact⟨x,by simp⟩
   ·obtain⟨x',hx⟩:=ih h1
    exact⟨x',by simp[hx]⟩
theorem Fu {h:Heap}{o:Nat}{y:Al}{p:Nat}{x:Al}(hm:(p,x)∈Aa h o y):(p=o/\x=y)∨(p,x)∈h:=by
 induction h with
 |nil=>simp[Aa] at hm
 |cons q h ih=>
  obtain⟨i,z⟩:=q
  simp only[Aa,beq_eq,cond_eq_ite,decide_eq_true_eq] at hm
  by_cases e:i=o
  ·rw[if_pos e] at hm
   rcases List.mem_cons.1 hm with h1|h1
   ·cases h1; exact .inl ⟨e,rfl⟩
   ·exact .inr (by simp[h1])
  ·rw[if_neg e] at hm
   rcases List.mem_cons.1 hm with h1|h1
   ·cases h1; exact .inr (by simp)
   ·rcases ih h1 with h2|h2
    ·exact .inl h2
    ·exact .inr (by simp[h2])
theorem QT {h:Heap}{o:Nat}{p:Nat}{x:Al}(hm:(p,x)∈GL h o):(p,x)∈h:=by
 induction h with
 |nil=>simp[GL] at hm
 |cons q h ih=>
  obtain⟨i,z⟩:=q
  simp only[GL,beq_eq,cond_eq_ite,decide_eq_true_eq] at hm
  by_cases e:i=o
  ·rw[if_pos e] at hm; simp[ih hm]
  ·rw[if_neg e] at hm
   rcases List.mem_cons.1 hm with h1|h1
   ·simp[h1]
   ·simp[ih h1]
structure Pd (st st':St):Prop where
 c:st.c<=st'.c
 lo:st'.lo=st.lo
 hb:HB st'
 CF:∀p,p<st.c->AA st'.h p=AA st.h p
 mem:∀p x,(p,x)∈st'.h->p<st.c->(p,x)∈st.h
theorem Pd.refl {st:St}(hb:HB st):Pd st st:=⟨Nat.le_refl _,rfl,hb,fun _ _=>rfl,fun _ _ h _=>h⟩
theorem Pd.trans {a b c:St}(h:Pd a b)(k:Pd b c):Pd a c:=⟨Nat.le_trans h.c k.c,k.lo.trans h.lo,k.hb,fun p hp=>(k.CF p (Nat.lt_of_lt_of_le hp h.c)).trans (h.CF p hp),fun p x hm hp=>h.mem p x (k.mem p x hm (Nat.lt_of_lt_of_le hp h.c)) hp⟩
def BR:AV->Option Nat
 |.AU o _ _ _=>some o
 |_=>none
inductive LH (h:Heap) (ty sz:Nat):AV->List AV->Prop
 |nl:LH h ty sz .AB []
 |mt (id:Nat) (ext:Bool) (hf:AA h id=some (.cells ty sz [] ext)):LH h ty sz (.AU id 0 0 (some 0)) []
 |ob (id:Nat) (xs:List AV) (h0:xs≠[]) (hc:∀x∈xs,x.cells.length=sz) (hf:AA h id=some (.cells ty sz (xs.flatMap AV.cells) true)):LH h ty sz (.AU id 0 xs.length none) xs
theorem LH.len {h:Heap}{ty sz:Nat}{v:AV}{xs:List AV}(H:LH h ty sz v xs):Bu v=some xs.length:=by cases H <;> rfl
theorem LH.heap {h h':Heap}{ty sz:Nat}{v:AV}{xs:List AV}(H:LH h ty sz v xs)(e:∀o,BR v=some o->AA h' o=AA h o):LH h' ty sz v xs:=by
 cases H with
 |nl=>exact .nl
 |mt id ext hf=>exact .mt id ext ((e id rfl).trans hf)
 |ob id xs h0 hc hf=>exact .ob id xs h0 hc ((e id rfl).trans hf)
theorem Av {sz:Nat}:∀{xs:List AV},(∀x∈xs,x.cells.length=sz)->(xs.flatMap AV.cells).length=xs.length*sz
 |[],_=>by simp
 |x::xs,h=>by
  rw[List.flatMap_cons,List.length_append,h x (by simp),Av fun y hy=>h y (by simp[hy])]
  simp[Nat.succ_mul,Nat.add_comm]
theorem SS {k f ty sz bytes:Nat}{fn:Aq}{v:AV}{xs:List AV}{st:St}(hh:hookOf f=none)(hc:codeOf f=some fn)(hp:fn.gz=.AZ)(hr:fn.results=[.tmp 2])(hbody:fn.body=C.S (C.R 0 [C.o 2 .move [.val (.AB)]]) (C.S (C.S (C.R 0 [C.m 3 0,C.o 4 (.eq false .slice) [C.t 3,.val (.AB)]]) (C.C (C.t 4) (C.S (C.R 0 [C.o 2 .move [.val (.AB)]]) .ret) .skip)) (C.S (C.R 2 [C.o 5 (.buildSlice 0 ty sz 0 [] []) [],C.m 6 0,C.o 7 (.append 1 ty sz bytes) [C.t 5,C.t 6],C.m 2 7]) .ret)))(hsz:0<sz)(hbt:bytes<=1000)(hl:xs.length<=1000)(H:Ci v sz xs)(hx:∀x∈xs,x.cells.length=sz)(hb:HB st) :
 ∃w st',AX E (k+1) f [v] st=.ret (w,st')/\LH st'.h ty sz w xs/\(∀o,BR w=some o->st.c<=o/\o<st'.c)/\Pd st st':=by
 rw[Ai (fn:=fn) hh hc hp,Af (by simp),hr,hbody]
 rcases H.out with⟨rfl,rfl⟩|⟨t,rfl⟩
 ·exact⟨.AB,st,by simp[Rf,Zw,leave,results,AR],.nl,fun o h=>by (cases h),Pd.refl hb⟩
 ·have hb':∀p x,(p,x)∈st.h->p<st.c:=hb
  have hsz':Nat.blt 0 sz=true:=by rw[blt_eq]; simpa using hsz
  have hz:Nat.beq sz 0=false:=by rw[beq_eq]; simp; omega
  have hss:Nat.beq sz sz=true:=Nat.beq_refl sz
  have hsz0:sz≠0:=by omega
  by_cases hx0:xs=[]
  ·subst hx0
   refine⟨.AU st.c 0 0 (some 0),{ h:=(st.c,.cells ty sz [] false)::st.h,c:=st.c+2,lo:=st.lo },?_,.mt _ false (by simp[AJ]),fun o h=>(by cases h; simp),⟨by simp,rfl,?_,?_,?_⟩⟩
   ·simp[Rf,Zw,Ar,hsz',BA,beq_eq,Ao hb',Bq,lenOf,Au,ble_eq,BV,hz,hsz0,leave,results,AR]
   ·intro p x hm
    rcases List.mem_cons.1 hm with h1|h1
    ·cases h1; simp
    ·have:=hb p x h1; simp; omega
   ·intro p hp; simp[AJ,show ¬st.c=p by omega]
   ·intro p x hm hp
    rcases List.mem_cons.1 hm with h1|h1
    ·cases h1; omega
    ·exact h1
  ·have hlen:xs.length≠0:=by simpa using hx0
   have hfl:=Av hx
   have hb2:∀p x,(p,x)∈(st.c,Al.cells ty sz [] false)::st.h->p<st.c+1:=fun p x hm=>by
    rcases List.mem_cons.1 hm with h1|h1
    ·cases h1; omega
    ·have:=hb p x h1; omega
   have hroom:xs.length*bytes<=room/\xs.length<=room:=by
    have:=Nat.mul_le_mul hl hbt
    unfold room
    constructor <;> omega
   refine⟨.AU (st.c+1) 0 xs.length none,{ h:=(st.c+1,.cells ty sz (xs.flatMap AV.cells) true)::(st.c,.cells ty sz [] false)::st.h,c:=st.c+2,lo:=st.lo },?_,.ob _ xs hx0 hx (by simp[AJ]),fun o h=>(by cases h; simp),⟨by simp,rfl,?_,?_,?_⟩⟩
   ·simp[Rf,Zw,Ar,hsz',BA,beq_eq,Ao hb',Bq,lenOf,Au,ble_eq,BV,hz,hsz0,hss,leave,results,AR,hlen,hx0,Dr,AJ,grow,hroom.1,hroom.2,Ao hb2]
   ·intro p x hm
    rcases List.mem_cons.1 hm with h1|h1
    ·cases h1; simp
    ·have:=hb2 p x h1; simp; omega
   ·intro p hp; simp[AJ,show ¬st.c=p by omega,show ¬st.c+1=p by omega]
   ·intro p x hm hp
    rcases List.mem_cons.1 hm with h1|h1
    ·cases h1; omega
    ·rcases List.mem_cons.1 h1 with h1|h1
     ·cases h1; omega
     ·exact h1
theorem Qv {k:Nat}{v:AV}{l:List BB}{st:St}(hl:l.length<=1000)(H:Ci v 1 (strs l))(hb:HB st) :
 ∃w st',AX E (k+1) 94 [v] st=.ret (w,st')/\LH st'.h 9 1 w (strs l)/\(∀o,BR w=some o->st.c<=o/\o<st'.c)/\Pd st st':=
 SS (fn:=C.f94) (ty:=9) (sz:=1) (bytes:=16) rfl rfl rfl rfl rfl (by omega) (by omega) (by simpa using hl) H (fun x hx=>by obtain⟨s,_,rfl⟩:=List.mem_map.1 hx; rfl) hb
theorem Bo.cells {l:List AV}{rs:List Bf}(h:Bo l rs):∀x∈l,x.cells.length=3:=by
 induction h with
 |nil=>simp
 |cons h _ ih=>
  intro x hx
  rcases List.mem_cons.1 hx with rfl|hx
  ·obtain⟨rv,rfl,_⟩:=h; rfl
  ·exact ih x hx
theorem Xb {k:Nat}{v:AV}{l:List AV}{rs:List Bf}{st:St}(hl:l.length<=1000)(H:Ci v 3 l)(hr:Bo l rs)(hb:HB st) :
 ∃w st',AX E (k+1) 95 [v] st=.ret (w,st')/\LH st'.h 47 3 w l/\(∀o,BR w=some o->st.c<=o/\o<st'.c)/\Pd st st':=
 SS (fn:=C.f95) (ty:=47) (sz:=3) (bytes:=48) rfl rfl rfl rfl rfl (by omega) (by omega) hl H hr.cells hb
end Go.Am
section
namespace Go.Am
open Go
 mutual
theorem AV.Fe:∀v:AV,AV.beq v v=true
 |.bool b=>by simp[AV.beq]
 |.int k n=>by cases k <;> simp[AV.beq]
 |.str s=>by simp[AV.beq]
 |.Ba=>by simp[AV.beq]
 |.AO o a=>by simp[AV.beq]
 |.BN cs=>by simp[AV.beq,AV.Fz cs]
 |.AB=>by simp[AV.beq]
 |.list t n a=>by simp[AV.beq,AV.Fz a]
 |.AU o a l c=>by simp[AV.beq]
 |.De=>by simp[AV.beq]
 |.Cq o=>by simp[AV.beq]
 |.Gs a b=>by simp[AV.beq,AV.Fz a,AV.Fz b]
 |.fn f a b=>by simp[AV.beq,AV.Fz a,AV.Fz b]
 |.Ih=>by simp[AV.beq]
 |.iface t v=>by simp[AV.beq,AV.Fe v]
 |.Cs=>by simp[AV.beq]
 |.agg a=>by simp[AV.beq,AV.Fz a]
 |.tuple a=>by simp[AV.beq,AV.Fz a]
theorem AV.Fz:∀l:List AV,AV.Ns l l=true
 |[]=>by simp[AV.Ns]
 |v::l=>by simp[AV.Ns,AV.Fe v,AV.Fz l]
end
section
variable {E:Env}{call:Nat->List AV->St->M (AV × St)}{s d q i:Nat}{k:AK}{args:List Gl}{ts:TS}{st:St}{js:List Nat}{p:Ik}{l:List (Nat × Bw × List Nat)}
theorem Gz (hd:d<65535):CL E call s ((i,⟨some d,none,k,args⟩,js)::l) p ts st=(GM E call s k (Qo ts args) st).bind fun r=>bif Cw s i p r.2 then CL E call s l (bif js.isEmpty then p else (js,k,Qo ts args,r.1)::p) (ts.set d r.1) r.2 else .fail:=by
 simp only[CL,Ij,wanted,cond_true,put,M.bind_assoc,M.KC]
 congr 1
 funext r
 cases js with
 |nil=>rfl
 |cons j js=>
  have:(ts.set d r.1).get d=r.1:=by rw[TS.VL _ _ _ _ hd]; simp
  simp only[NP,wanted,cond_true,List.isEmpty_cons,cond_false,this]
theorem IY:CL E call s ((i,⟨none,none,k,args⟩,js)::l) p ts st=(GM E call s k (Qo ts args) st).bind fun r=>bif Cw s i p r.2 then CL E call s l p ts r.2 else .fail:=by
 simp only[CL,Ij,wanted,cond_true,put,M.bind_assoc,M.KC]
 congr 1
 funext r
 cases js with
 |nil=>rfl
 |cons j js=>simp only[NP,wanted,cond_true]
theorem Dw {s i:Nat}{st:St}:Cw s i [] st=true:=rfl
theorem Da {s i:Nat}{st:St}{js:List Nat}{k:AK}{l:List AV}{v:AV}{p:Ik}:Cw s i ((js,k,l,v)::p) st=((!js.any (Nat.beq i)||(match step s k l st with|some r=>AV.beq v r.1|none=>false))&&Cw s i p st):=rfl
theorem Fj {s:Nat}{st:St}{agg:Option Nat}{x:AV}:step s (.load agg) [x] st=Df st (GU st.h agg x):=rfl
theorem LP {s sz:Nat}{st:St}{x y:AV}:step s (.indexAddr sz) [x,y] st=Ad sz x y st:=rfl
end
theorem Ip {a b c w:AV}:∀{ls:List AV} {i:Nat},(∀x∈ls,x.cells.length=3)->ls[i]? =some (.agg [a,b,c])->(ls.flatMap AV.cells).set (3*i+1) w=(ls.set i (.agg [a,w,c])).flatMap AV.cells
 |[],i,_,h=>by simp at h
 |x::ls,0,hc,h=>by
  simp at h; subst h; simp[AV.cells]
 |x::ls,i+1,hc,h=>by
  have hx:=hc x (by simp)
  have ih:=Ip (w:=w) (ls:=ls) (i:=i) (fun y hy=>hc y (by simp[hy])) (by simpa using h)
  rw[List.flatMap_cons,List.set_append_right _ _ (by omega),hx,show 3*(i+1)+1-3=3*i+1 by omega,ih]
  simp
theorem Fv {a b c:AV}:∀{ls:List AV} {i:Nat},(∀x∈ls,x.cells.length=3)->ls[i]? =some (.agg [a,b,c])->(ls.flatMap AV.cells)[3*i]? =some a/\(ls.flatMap AV.cells)[3*i+1]? =some b/\(ls.flatMap AV.cells)[3*i+2]? =some c
 |[],i,_,h=>by simp at h
 |x::ls,0,hc,h=>by
  simp at h; subst h; simp[AV.cells]
 |x::ls,i+1,hc,h=>by
  have hx:=hc x (by simp)
  have ih:=Fv (ls:=ls) (i:=i) (fun y hy=>hc y (by simp[hy])) (by simpa using h)
  rw[List.flatMap_cons,List.getElem?_append_right (by omega),List.getElem?_append_right (by omega),List.getElem?_append_right (by omega),hx,show 3*(i+1)-3=3*i by omega,show 3*(i+1)+1-3=3*i+1 by omega,show 3*(i+1)+2-3=3*i+2 by omega]
  exact ih
end Go.Am
end
namespace Go.Am
open Go
def OB (h:Heap)(v:AV)(r:Bf):Prop:=∃w,v=.agg [.str r.left,w,.int .i64 r.level]/\LH h 9 1 w (strs r.right)
def GQ:AV->Option Nat
 |.agg [_,w,_]=>BR w
 |_=>none
theorem OB.heap {h h':Heap}{v:AV}{r:Bf}(H:OB h v r)(e:∀o,GQ v=some o->AA h' o=AA h o):OB h' v r:=by
 obtain⟨w,h1,h2⟩:=H; subst h1; exact⟨w,rfl,h2.heap e⟩
theorem OB.three {h:Heap}{v:AV}{r:Bf}(H:OB h v r):v.cells.length=3:=by
 obtain⟨w,rfl,_⟩:=H; rfl
structure YV (st0:St)(BC:Nat)(rs:List Bf)(vs0:List AV)(i:Nat)(ls:List AV)(st:St):Prop where
 hb:HB st
 c:st0.c<=st.c
 lo:st.lo=st0.lo
 ln:ls.length=rs.length
 rules:AA st.h BC=some (.cells 47 3 (ls.flatMap AV.cells) true)
 three:∀x∈ls,x.cells.length=3
 done:∀j,j<i->∀(hl:j<ls.length) (hr:j<rs.length),OB st.h ls[j] rs[j]/\∀o,GQ ls[j]=some o->st0.c<=o/\o<st.c
 todo:∀j,i<=j->∀(hl:j<ls.length) (hv:j<vs0.length),ls[j]=vs0[j]
 inj:∀(j k:Nat) (hj:j<ls.length) (hk:k<ls.length) (o:Nat),j<i->k<i->GQ ls[j]=some o->GQ ls[k]=some o->j=k
 CF:∀p,p<st0.c->p≠BC->AA st.h p=AA st0.h p
 mem:∀p x,(p,x)∈st.h->p<st0.c->p≠BC->(p,x)∈st0.h
theorem PW {st:St}{BC n i ty:Nat}{cs:List AV}{ext:Bool}(hf:AA st.h BC=some (.cells ty 3 cs ext))(hi:i<n):Ad 3 (.AU BC 0 n none) (.int .i64 (i:Int)) st=some (.AO BC (3*i),st):=by
 simp[Ad,Bd,hf,blt_eq,beq_eq,hi,Nat.mul_comm]
theorem AL {h:Heap}{o off ty sz:Nat}{cs:List AV}{ext:Bool}(hf:AA h o=some (.cells ty sz cs ext)):AP h (.AO o off)=cs[off]?:=by simp[AP,hf]
theorem LH.one {h:Heap}{ty sz:Nat}{v:AV}{xs:List AV}(H:LH h ty sz v xs):v.isTuple=false/\v.cells=[v]:=by cases H <;> exact⟨rfl,rfl⟩
theorem VY {k:Nat}{st0:St}{gid BC:Nat}{kv:AV}{s:BB}{rs:List Bf}{vs0:List AV}(hgc:gid<st0.c)(hrc:BC<st0.c)(hgr:gid≠BC)(hlo:st0.lo<=BC)(hg:AA st0.h gid=some (.cells 29 3 [kv,.str s,.AU BC 0 rs.length none] false))(hv:Bo vs0 rs)(hsm:rs.length<=100)(hsr:∀r∈rs,r.right.length<=1000)(hr0:AA st0.h BC=some (.cells 47 3 (vs0.flatMap AV.cells) true))(hb0:HB st0)(ts:TS)(h1:ts.get 1=.AO gid 0)(h2:ts.get 2=.AO (gid+1) 0)(h14:ts.get 14=.int .i64 rs.length)(h15:ts.get 15=.int .i64 (0:Nat)) :
 (Dh (BF E (AX E (k+1)) C.f49L0) E.k ts st0).to fun r=>r.1=.exit 0/\r.2.1.get 1=.AO gid 0/\r.2.1.get 2=.AO (gid+1) 0/\∃ls,YV st0 BC rs vs0 rs.length ls r.2.2:=by
 refine DI (fun (i:Nat) ts st=>i<=rs.length/\ts.get 1=.AO gid 0/\ts.get 2=.AO (gid+1) 0/\ts.get 14=.int .i64 rs.length/\ts.get 15=.int .i64 (i:Nat)/\∃ls,YV st0 BC rs vs0 i ls st)
  (fun i=>rs.length-i) ?_ _ 0 _ _ ?_ ?_
 ·rintro i ts st ⟨hi,h1,h2,h14,h15,ls,H⟩
  by_cases Bc:i<rs.length
  ·have hil:i<ls.length:=by rw[H.ln]; exact Bc
   have hiv:i<vs0.length:=by rw[hv.length]; exact Bc
   obtain⟨_,rv,hrv,hsl⟩:=hv.get i Bc
   have hli:ls[i]=.agg [.str rs[i].left,rv,.int .i64 rs[i].level]:=by rw[H.todo i (Nat.le_refl _) hil hiv,hrv]
   have hget:=Fv H.three (show ls[i]? =some (.agg [.str rs[i].left,rv,.int .i64 rs[i].level]) by rw[List.getElem?_eq_getElem hil,hli])
   have hgs:AA st.h gid=some (.cells 29 3 [kv,.str s,.AU BC 0 rs.length none] false):=by rw[H.CF gid hgc hgr]; exact hg
   obtain⟨w,st1,hcl,hm,hid,hgw⟩:=Qv (k:=k) (st:=⟨st.h,st.c,st.lo⟩) (hsr rs[i] (List.getElem_mem Bc)) hsl H.hb
   have hst:(⟨st.h,st.c,st.lo⟩:St)=st:=rfl
   rw[hst] at hcl hid hgw
   have hgs1:AA st1.h gid=some (.cells 29 3 [kv,.str s,.AU BC 0 rs.length none] false):=by rw[hgw.CF gid (Nat.lt_of_lt_of_le hgc H.c)]; exact hgs
   have hrs1:AA st1.h BC=some (.cells 47 3 (ls.flatMap AV.cells) true):=by rw[hgw.CF BC (Nat.lt_of_lt_of_le hrc H.c)]; exact H.rules
   have hwt:w.isTuple=false/\w.cells=[w]:=hm.one
   have hlen3:(ls.flatMap AV.cells).length=ls.length*3:=Av H.three
   have hsto:=Cr (st:=st1) (off:=3*i+1) (v:=w) hrs1 (by rw[hgw.lo,H.lo]; exact hlo) (by rw[hlen3]; omega) hwt.1 hwt.2
   rw[Ip H.three (show ls[i]? =some (.agg [.str rs[i].left,rv,.int .i64 rs[i].level]) by rw[List.getElem?_eq_getElem hil,hli])] at hsto
   have hload:∀h,AA h gid=some (.cells 29 3 [kv,.str s,.AU BC 0 rs.length none] false)->AP h (.AO gid 2)=some (.AU BC 0 rs.length none):=fun h e=>by rw[AL e]; rfl
   simp[C.f49L0,h1,h14,h15,Bc,Gz,IY,Dw,Da,Fj,beq_eq,hload _ hgs,hload _ hgs1,PW H.rules Bc,AL H.rules,hget.2.1,hcl,AV.Fe,PW hrs1 Bc,hsto,wi i]
   refine⟨i+1,by omega,by omega,h2,by simp,ls.set i (.agg [.str rs[i].left,w,.int .i64 rs[i].level]),?_⟩
   have hfr:∀p,p≠BC->AA (Aa st1.h BC (.cells 47 3 ((ls.set i (.agg [.str rs[i].left,w,.int .i64 rs[i].level])).flatMap AV.cells) true)) p=AA st1.h p:=fun p hp=>by
    rw[AY hrs1,if_neg (Ne.symm hp)]
   refine⟨?_,Nat.le_trans H.c hgw.c,by rw[← H.lo,← hgw.lo],by simp[H.ln],by simp[AY hrs1],?_,?_,?_,?_,?_,?_⟩
   ·intro p x hpm
    obtain⟨x',hx'⟩:=IQ hpm
    exact hgw.hb p x' hx'
   ·intro x hx
    rcases List.mem_or_eq_of_mem_set hx with h|h
    ·exact H.three x h
    ·subst h; rfl
   ·intro j hj hl hr
    by_cases e:j=i
    ·subst e
     have:(ls.set j (.agg [.str rs[j].left,w,.int .i64 rs[j].level]))[j]=.agg [.str rs[j].left,w,.int .i64 rs[j].level]:=by simp
     rw[this]
     refine⟨⟨w,rfl,hm.heap fun o ho=>?_⟩,fun o ho=>?_⟩
     ·have:=hid o ho
      exact hfr o (by have:=H.c; omega)
     ·have:=hid o ho
      have:=H.c
      exact (show st0.c<=o/\o<st1.c from⟨by omega,by omega⟩)
    ·have hl':j<ls.length:=by simpa using hl
     have:(ls.set i (.agg [.str rs[i].left,w,.int .i64 rs[i].level]))[j]=ls[j]:=by rw[List.getElem_set_ne (Ne.symm e)]
     rw[this]
     obtain⟨d1,d2⟩:=H.done j (by omega) hl' hr
     refine⟨d1.heap fun o ho=>?_,fun o ho=>⟨(d2 o ho).1,Nat.lt_of_lt_of_le (d2 o ho).2 hgw.c⟩⟩
     have:=d2 o ho
     rw[hfr o (by omega),hgw.CF o this.2]
   ·intro j hj hl hv'
    have e:j≠i:=by omega
    have hl':j<ls.length:=by simpa using hl
    rw[List.getElem_set_ne (Ne.symm e)]
    exact H.todo j (by omega) hl' hv'
   ·intro j k' hj hk' o hji hki e1 e2
    have hj':j<ls.length:=by simpa using hj
    have hk2:k'<ls.length:=by simpa using hk'
    have hnew:∀(m:Nat) (hm':m<ls.length),m<i->GQ ls[m]=some o->o<st.c:=fun m hm' hmi e=>((H.done m hmi hm' (by rw[← H.ln]; exact hm')).2 o e).2
    by_cases a1:j=i
    ·by_cases a2:k'=i
     ·omega
     ·subst a1
      rw[List.getElem_set_self] at e1
      rw[List.getElem_set_ne (Ne.symm a2)] at e2
      have h3:=hnew k' hk2 (by omega) e2
      have h4:=hid o e1
      omega
    ·by_cases a2:k'=i
     ·subst a2
      rw[List.getElem_set_self] at e2
      rw[List.getElem_set_ne (Ne.symm a1)] at e1
      have h3:=hnew j hj' (by omega) e1
      have h4:=hid o e2
      omega
     ·rw[List.getElem_set_ne (Ne.symm a1)] at e1
      rw[List.getElem_set_ne (Ne.symm a2)] at e2
      exact H.inj j k' hj' hk2 o (by omega) (by omega) e1 e2
   ·intro p hp hne
    show AA (Aa st1.h BC _) p=_
    rw[hfr p hne,hgw.CF p (Nat.lt_of_lt_of_le hp H.c),H.CF p hp hne]
   ·intro p x hm hp hne
    rcases Fu hm with h|h
    ·exact absurd h.1 hne
    ·exact H.mem p x (hgw.mem p x h (Nat.lt_of_lt_of_le hp H.c)) hp hne
  ·simp[C.f49L0,h1,h2,h14,h15,Bc]
   have:i=rs.length:=by omega
   subst this
   exact⟨ls,H⟩
 ·show rs.length-0<1000000; omega
 ·refine⟨by omega,h1,h2,h14,h15,vs0,⟨hb0,Nat.le_refl _,rfl,hv.length,hr0,hv.cells,fun j hj=>by omega,fun _ _ _ _=>rfl,fun j k _ _ o hj=>by omega,fun _ _ _=>rfl,fun _ _ h _ _=>h⟩⟩
theorem FW {st:St}{o ty sz n:Nat}{cs vs:List AV}{ext:Bool}(hf:AA st.h o=some (.cells ty sz cs ext))(hlo:st.lo<=o)(h1:vs.length=n)(h2:cs.length=n) :
 BJ n (.AO o 0) (.agg vs) st=some (.undef,{ st with h:=Aa st.h o (.cells ty sz vs ext) }):=by
 have hb:Nat.blt o st.lo=false:=by rw[blt_eq]; simp; omega
 have hn:Nat.beq vs.length n=true:=by rw[beq_eq]; simpa using h1
 have hl:Nat.ble vs.length cs.length=true:=Nat.ble_eq_true_of_le (by omega)
 have hs:BS cs 0 vs=vs:=by
  unfold BS
  rw[List.take_zero,List.nil_append,Nat.zero_add,List.drop_eq_nil_of_le (by omega),List.append_nil]
 simp[BJ,AV.isTuple,AV.cells,hn,BI,hb,hf,hl,hs,CO]
theorem Bj {h:Heap}{o n ty sz:Nat}{cs:List AV}{ext:Bool}(hf:AA h o=some (.cells ty sz cs ext))(hn:cs.length=n):Ac h (.AO o 0) n=some cs:=by
 have:Nat.ble cs.length cs.length=true:=Nat.ble_eq_true_of_le (by omega)
 subst hn
 simp[Ac,hf,this]
structure Vv (c0:Nat)(st:St)(g:Ak)(kv:AV)(BC:Nat)(ls:List AV):Prop where
 kinds:LH st.h 9 1 kv (strs g.kinds)
 iH:∀o,BR kv=some o->c0<=o/\o<BC
 LC:c0<=BC/\BC<st.c
 rules:AA st.h BC=some (.cells 47 3 (ls.flatMap AV.cells) true)
 ln:ls.length=g.rules.length
 each:∀(j:Nat) (hl:j<ls.length) (hr:j<g.rules.length),OB st.h ls[j] g.rules[j]/\∀o,GQ ls[j]=some o->BC<o/\o<st.c
 inj:∀(j k:Nat) (hj:j<ls.length) (hk:k<ls.length) (o:Nat),GQ ls[j]=some o->GQ ls[k]=some o->j=k
 three:∀x∈ls,x.cells.length=3
theorem XX {k:Nat}{v:AV}{g:Ak}{st:St}(hg:Bl v g)(hs:g.Small)(h0:0<g.rules.length)(hb:HB st)(hlo:st.lo<=st.c) :
 ∃kv BC ls st',AX E (k+2) 49 [v] st=.ret (.agg [kv,.str g.start,.AU BC 0 ls.length none],st')/\Vv st.c st' g kv BC ls/\Pd st st':=by
 obtain⟨kv0,rv0,vs0,rfl,hk,hr,hrs⟩:=hg
 rw[Ai (fn:=C.f49) rfl rfl rfl,Af (by simp)]
 have hm:=hs.many
 have hkn:=hs.kinds
 let hA:Heap:=(st.c+1,.cells 29 3 [.AB,.str [],.AB] false)::(st.c,.cells 29 3 [kv0,.str g.start,rv0] false)::st.h
 let stA:St:=⟨hA,st.c+2,st.lo⟩
 have hbA:HB stA:=fun p x hx=>by
  show p<st.c+2
  rcases List.mem_cons.1 hx with h|h
  ·cases h; omega
  ·rcases List.mem_cons.1 h with h|h
   ·cases h; omega
   ·have:=hb p x h; omega
 have hoA:∀p,p<st.c->AA hA p=AA st.h p:=fun p hp=>by simp[hA,AJ,show ¬st.c+1=p by omega,show ¬st.c=p by omega]
 have hgA:AA hA st.c=some (.cells 29 3 [kv0,.str g.start,rv0] false):=by simp[hA,AJ]
 have hqA:AA hA (st.c+1)=some (.cells 29 3 [.AB,.str [],.AB] false):=by simp[hA,AJ]
 obtain⟨kv,st1,c1,m1,i1,g1⟩:=Qv (k:=k) (st:=stA) (show g.kinds.length<=1000 by omega) hk hbA
 have hg1:AA st1.h st.c=some (.cells 29 3 [kv0,.str g.start,rv0] false):=by rw[g1.CF _ (show st.c<st.c+2 by omega)]; exact hgA
 have hq1:AA st1.h (st.c+1)=some (.cells 29 3 [.AB,.str [],.AB] false):=by rw[g1.CF _ (show st.c+1<st.c+2 by omega)]; exact hqA
 have hlo1:st1.lo<=st.c:=by rw[g1.lo]; exact hlo
 have s1:=Cr (st:=st1) (off:=0) (v:=kv) hg1 hlo1 (by simp) m1.one.1 m1.one.2
 let st2:St:={ st1 with h:=Aa st1.h st.c (.cells 29 3 [kv,.str g.start,rv0] false) }
 have hg2:AA st2.h st.c=some (.cells 29 3 [kv,.str g.start,rv0] false):=by simp[st2,AY hg1]
 have ho2:∀p,p≠st.c->AA st2.h p=AA st1.h p:=fun p hp=>by simp[st2,AY hg1,Ne.symm hp]
 have hb2:HB st2:=fun p x hx=>by obtain⟨x',h'⟩:=IQ hx; exact g1.hb p x' h'
 obtain⟨rv,st3,c3,m3,i3,g3⟩:=Xb (k:=k) (st:=st2) (show vs0.length<=1000 by rw[hrs.length]; omega) hr hrs hb2
 have hc2:st2.c=st1.c:=rfl
 have hcA:stA.c=st.c+2:=rfl
 have hc1:st.c+2<=st1.c:=g1.c
 have hg3:AA st3.h st.c=some (.cells 29 3 [kv,.str g.start,rv0] false):=by rw[g3.CF _ (by omega)]; exact hg2
 have hlo3:st3.lo<=st.c:=by rw[g3.lo]; exact hlo1
 obtain⟨BC,rfl,hr3⟩:∃BC,rv=.AU BC 0 vs0.length none/\AA st3.h BC=some (.cells 47 3 (vs0.flatMap AV.cells) true):=by
  have hne:vs0≠[]:=fun e=>by have:=hrs.length; rw[e] at this; simp at this; omega
  generalize hxs:vs0=xs at m3
  cases m3 with
  |nl=>exact absurd hxs hne
  |mt=>exact absurd hxs hne
  |ob id _ _ _ hf=>subst hxs; exact⟨id,rfl,hf⟩
 have hrid:=i3 BC rfl
 have s3:=Cr (st:=st3) (off:=2) (v:=.AU BC 0 vs0.length none) hg3 hlo3 (by simp) rfl rfl
 let st4:St:={ st3 with h:=Aa st3.h st.c (.cells 29 3 [kv,.str g.start,.AU BC 0 vs0.length none] false) }
 have hg4:AA st4.h st.c=some (.cells 29 3 [kv,.str g.start,.AU BC 0 vs0.length none] false):=by simp[st4,AY hg3]
 have ho4:∀p,p≠st.c->AA st4.h p=AA st3.h p:=fun p hp=>by simp[st4,AY hg3,Ne.symm hp]
 have hb4:HB st4:=fun p x hx=>by obtain⟨x',h'⟩:=IQ hx; exact g3.hb p x' h'
 have hc3:=g3.c
 have hlen:=hrs.length
 have hgrid:st.c≠BC:=by omega
 have loop:=fun ts a b c d=>VY (k:=k) (st0:=st4) (gid:=st.c) (BC:=BC) (kv:=kv) (s:=g.start) (rs:=g.rules) (vs0:=vs0) (by show st.c<st3.c; omega) hrid.2 hgrid (by show st3.lo<=BC; omega)
  (by rw[← hlen]; exact hg4) hrs (by omega) (fun r hr=>by have:=(hs.rules r hr).right; omega) (by rw[ho4 _ (Ne.symm hgrid)]; exact hr3) hb4 ts a b c d
 have hb':∀p x,(p,x)∈st.h->p<st.c:=hb
 have hbB:∀p x,(p,x)∈(st.c,Al.cells 29 3 [kv0,.str g.start,rv0] false)::st.h->p<st.c+1:=fun p x hx=>by
  rcases List.mem_cons.1 hx with h|h
  ·cases h; omega
  ·have:=hb p x h; omega
 have main:((BF E (AX E (k+1)) C.f49.body (TS.Cm [.agg [kv0,.str g.start,rv0]] 0 .nil) st).bind (leave C.f49.results)).to fun r=>
  ∃ls,r.1=.agg [kv,.str g.start,.AU BC 0 ls.length none]/\Vv st.c r.2 g kv BC ls/\Pd st r.2:=by
  have rk:∀h x y z,AA h st.c=some (.cells 29 3 [x,y,z] false)->AP h (.AO st.c 0)=some x:=fun h x y z e=>by rw[AL e]; rfl
  have rr:∀h x y z,AA h st.c=some (.cells 29 3 [x,y,z] false)->AP h (.AO st.c 2)=some z:=fun h x y z e=>by rw[AL e]; rfl
  have e1:(⟨hA,st.c+2,st.lo⟩:St)=stA:=rfl
  have hAe:(st.c+1,Al.cells 29 3 [.AB,.str [],.AB] false)::(st.c,Al.cells 29 3 [kv0,.str g.start,rv0] false)::st.h=hA:=rfl
  have e2:(⟨st1.h,st1.c,st1.lo⟩:St)=st1:=rfl
  have f1:AP stA.h (.AO st.c 0)=some kv0:=rk _ _ _ _ hgA
  have e3:(⟨Aa st1.h st.c (.cells 29 3 [kv,.str g.start,rv0] false),st1.c,st1.lo⟩:St)=st2:=rfl
  have f2:AP st2.h (.AO st.c 2)=some rv0:=rr _ _ _ _ hg2
  have e4:(⟨Aa st3.h st.c (.cells 29 3 [kv,.str g.start,.AU BC 0 vs0.length none] false),st3.c,st3.lo⟩:St)=st4:=rfl
  have f4:AP st4.h (.AO st.c 2)=some (.AU BC 0 vs0.length none):=rr _ _ _ _ hg4
  simp only[List.set_cons_zero] at s1
  simp only[List.set_cons_succ,List.set_cons_zero] at s3
  clear_value stA st2 st4 hA
  simp[C.f49,Gy,AV.isTuple,AV.cells,Ao hb',Ao hbB,hAe,e1,f1,c1,s1,e3,f2,c3,s3,e4,f4,Be,Bu]
  refine M.BX (loop _ (by simp) (by simp) (by simp[hlen]) (by simp)) fun r hr=>?_
  obtain⟨e,ts,st5⟩:=r
  obtain⟨rfl,t1,t2,ls,H⟩:=hr
  simp only at t1 t2 H
  have hg5:AA st5.h st.c=some (.cells 29 3 [kv,.str g.start,.AU BC 0 vs0.length none] false):=by rw[H.CF _ (by rw[← e4]; show st.c<st3.c; omega) hgrid]; exact hg4
  have hq5:AA st5.h (st.c+1)=some (.cells 29 3 [.AB,.str [],.AB] false):=by
   rw[H.CF _ (by rw[← e4]; show st.c+1<st3.c; omega) (by omega),ho4 _ (by omega),g3.CF _ (by omega),ho2 _ (by omega)]; exact hq1
  have hlo5:st5.lo<=st.c+1:=by rw[H.lo,← e4]; show st3.lo<=_; omega
  have sq:=FW (st:=st5) (n:=3) (vs:=[kv,.str g.start,.AU BC 0 vs0.length none]) hq5 hlo5 rfl rfl
  simp[t1,t2,Bj (n:=3) hg5 rfl,sq,beq_eq,leave,results,AR,Bj (n:=3) (show AA (Aa st5.h (st.c+1) (.cells 29 3 [kv,.str g.start,.AU BC 0 vs0.length none] false)) (st.c+1)=some (.cells 29 3 [kv,.str g.start,.AU BC 0 vs0.length none] false) by simp[AY hq5]) rfl]
  have hln:ls.length=vs0.length:=by rw[H.ln,hlen]
  have hc4:st4.c=st3.c:=by rw[← e4]
  have hnq:∀p,p≠st.c+1->AA (Aa st5.h (st.c+1) (.cells 29 3 [kv,.str g.start,.AU BC 0 vs0.length none] false)) p=AA st5.h p:=fun p hp=>by rw[AY hq5,if_neg (Ne.symm hp)]
  refine⟨ls,by rw[hln],⟨m1.heap fun o ho=>?_,fun o ho=>⟨by have:=(i1 o ho).1; omega,by have:=(i1 o ho).2; omega⟩,⟨by omega,by show BC<st5.c; have:=H.c; omega⟩,?_,H.ln,fun j hl hr=>?_,fun j k' hj hk' o=>H.inj j k' hj hk' o (by rw[← H.ln]; exact hj) (by rw[← H.ln]; exact hk'),H.three⟩,⟨by show st.c<=st5.c; have:=H.c; omega,by show st5.lo=st.lo; rw[H.lo,← e4]; show st3.lo=_; rw[g3.lo,← e3]; show st1.lo=_; rw[g1.lo,← e1],fun p x hx=>?_,fun p hp=>?_,fun p x hx hp=>?_⟩⟩
  ·have:=i1 o ho
   show AA (Aa st5.h (st.c+1) _) o=_
   rw[hnq o (by omega),H.CF o (by omega) (by omega),ho4 o (by omega),g3.CF o (by omega),ho2 o (by omega)]
  ·show AA (Aa st5.h (st.c+1) _) BC=_
   rw[hnq BC (by omega)]; exact H.rules
  ·obtain⟨d1,d2⟩:=H.done j (by omega) hl hr
   refine⟨d1.heap fun o ho=>?_,fun o ho=>?_⟩
   ·have:=d2 o ho
    show AA (Aa st5.h (st.c+1) _) o=_
    rw[hnq o (by omega)]
   ·have:=d2 o ho
    exact (show BC<o/\o<st5.c from⟨by omega,by omega⟩)
  ·obtain⟨x',h'⟩:=IQ hx
   exact H.hb p x' h'
  ·show AA (Aa st5.h (st.c+1) _) p=_
   rw[hnq p (by omega),H.CF p (by omega) (by omega),ho4 p (by omega),g3.CF p (by omega),ho2 p (by omega),g1.CF p (by omega),← e1]
   exact hoA p hp
  ·rcases Fu hx with h|h
   ·omega
   have h:=H.mem p x h (by omega) (by omega)
   rw[← e4] at h
   rcases Fu h with h|h
   ·omega
   have h:=g3.mem p x h (by omega)
   rw[← e3] at h
   rcases Fu h with h|h
   ·omega
   have h:=g1.mem p x h (by omega)
   rw[← e1] at h
   rw[← hAe] at h
   rcases List.mem_cons.1 h with h|h
   ·cases h; omega
   ·rcases List.mem_cons.1 h with h|h
    ·cases h; omega
    ·exact h
 obtain⟨⟨v',st'⟩,hr1,ls,rfl,h2,h3⟩:=main
 exact⟨kv,BC,ls,st',hr1,h2,h3⟩
theorem Dv {c:Nat}{h:Heap}{n:Nat}{v:AV}(hv:v.CF c=true):Cf c h (n+1) v=some v:=by cases v <;> (unfold Cf; simp[hv])
theorem NH {c:Nat}{h:Heap}{n:Nat}:∀{l:List AV},AV.Cx c l=true->CU (Cf c h (n+1)) l=some l
 |[],_=>rfl
 |v::l,hl=>by
  simp only[AV.Cx,Bool.and_eq_true] at hl
  simp[CU,Dv hl.1,NH hl.2]
theorem KF (c:Nat)(l:List BB):AV.Cx c (strs l)=true:=by
 induction l with
 |nil=>rfl
 |cons s l ih=>simpa [strs,AV.Cx,AV.CF] using ih
theorem Om {f:AV->Option AV}:∀{a b a' b':List AV},CU f a=some a'->CU f b=some b'->CU f (a++b)=some (a'++b')
 |[],b,a',b',h,k=>by cases h; exact k
 |v::l,b,a',b',h,k=>by
  simp only[CU] at h
  split at h
  ·rename_i v' hv
   split at h
   ·rename_i l' hl
    cases h
    simp[CU,hv,Om hl k]
   ·cases h
  ·cases h
theorem Pw {c:Nat}{h:Heap}{n:Nat}{l l':List AV}(ho:AV.Cx c l=true)(ht:CU (Cf c h n) l=some l')(hn:0<n):l'=l:=by
 obtain⟨m,rfl⟩:∃m,n=m+1:=⟨n-1,by omega⟩
 rw[NH ho] at ht
 exact (Option.some.inj ht).symm
theorem Xq {c:Nat}{h:Heap}{n:Nat}{cs cs':List AV}(ht:CU (Cf c h n) cs=some cs')(hn:0<n):Cf c h (n+1) (.agg cs)=some (.agg cs'):=by
 unfold Cf
 cases ho:(AV.agg cs).CF c with
 |true=>
  have:=Pw (by simpa [AV.CF] using ho) ht hn
  rw[this]; rfl
 |false=>simp[ht]
def RG (c:Nat)(h:Heap)(w:AV)(l:List BB):Prop:=(w=.AB/\l=[])∨∃id cap ty ext,w=.AU id 0 l.length cap/\c<id/\AA h id=some (.cells ty 1 (strs l) ext)
theorem RG.frame {c:Nat}{h h':Heap}{w:AV}{l:List BB}(H:RG c h w l)(hf:∀p,c<p->AA h' p=AA h p):RG c h' w l:=by
 rcases H with h0|⟨id,cap,ty,ext,h1,h2,h3⟩
 ·exact .inl h0
 ·exact .inr ⟨id,cap,ty,ext,h1,h2,(hf id h2).trans h3⟩
theorem Xt:∀(l:List AV),rows 1 l.length l=l
 |[]=>rfl
 |v::l=>by simp[rows,Xt l]
theorem Px {c:Nat}{h:Heap}{n o off len sz ty:Nat}{cap:Option Nat}{cs cs':List AV}{ext:Bool}(ho:c<=o)(hf:AA h o=some (.cells ty sz cs ext))(hsz:0<sz)(hl:off+len*sz<=cs.length)(ht:CU (Cf c h n) ((cs.drop off).take (len*sz))=some cs') :
 Cf c h (n+1) (.AU o off len cap)=some (.list (match cap with|some c=>Nat.beq c len|none=>false) sz (rows sz len cs')):=by
 unfold Cf
 have h1:(AV.AU o off len cap).CF c=false:=by simp[AV.CF,blt_eq]; omega
 have h2:(Nat.blt 0 sz&&Nat.ble (off+len*sz) cs.length)=true:=by rw[blt_eq,ble_eq]; simp[hsz,hl]
 simp only[h1,hf,h2,ht,cond_true,cond_false]
 cases cap <;> rfl
theorem OI (l:List BB):(strs l).flatMap AV.cells=strs l:=by
 unfold strs
 induction l with
 |nil=>rfl
 |cons s l ih=>simpa [AV.cells] using ih
theorem RG.of {c:Nat}{h:Heap}{w:AV}{l:List BB}(H:LH h 9 1 w (strs l))(hc:∀o,BR w=some o->c<o):RG c h w l:=by
 generalize hxs:strs l=xs at H
 have hl:l.length=xs.length:=by rw[← hxs]; simp
 cases H with
 |nl=>exact .inl ⟨rfl,by simpa using hl⟩
 |mt id ext hf=>exact .inr ⟨id,_,9,ext,by rw[hl]; rfl,hc id rfl,by rw[hxs]; exact hf⟩
 |ob id xs h0 h1 hf=>exact .inr ⟨id,_,9,true,by rw[hl],hc id rfl,by rw[hxs,hf,← hxs,OI]⟩
theorem RG.Cf {c:Nat}{h:Heap}{w:AV}{l:List BB}(H:RG c h w l):∃w',Ci w' 1 (strs l)/\∀n,2<=n->Cf c h n w=some w':=by
 rcases H with⟨rfl,rfl⟩|⟨id,cap,ty,ext,rfl,hc,hf⟩
 ·exact⟨.AB,⟨.inl ⟨rfl,rfl⟩⟩,fun n hn=>by obtain⟨m,rfl⟩:∃m,n=m+1:=⟨n-1,by omega⟩; exact Dv rfl⟩
 ·refine⟨.list (match cap with|some c=>Nat.beq c l.length|none=>false) 1 (strs l),⟨.inr ⟨_,rfl⟩⟩,fun n hn=>?_⟩
  obtain⟨m,rfl⟩:∃m,n=m+2:=⟨n-2,by omega⟩
  have hl:(strs l).length=l.length:=UB l
  have ht:CU (Am.Cf c h (m+1)) (((strs l).drop 0).take (l.length*1))=some (strs l):=by
   rw[List.drop_zero,Nat.mul_one,← hl,List.take_length]; exact NH (KF c l)
  rw[Px (Nat.le_of_lt hc) hf (by omega) (by omega) ht,← hl,Xt]
def Jw (c:Nat)(h:Heap)(v:AV)(r:Bf):Prop:=∃w,v=.agg [.str r.left,w,.int .i64 r.level]/\RG c h w r.right
inductive CP (c:Nat) (h:Heap):List AV->List Bf->Prop
 |nil:CP c h [] []
 |cons {v:AV} {r:Bf} {l:List AV} {rs:List Bf} (a:Jw c h v r) (t:CP c h l rs):CP c h (v::l) (r::rs)
theorem CP.Mh {c:Nat}{h:Heap}:∀{l:List AV} {rs:List Bf},l.length=rs.length->(∀(j:Nat) (hl:j<l.length) (hr:j<rs.length),Jw c h l[j] rs[j])->CP c h l rs
 |[],[],_,_=>.nil
 |v::l,r::rs,hn,H=>.cons (H 0 (by simp) (by simp)) (CP.Mh (by simpa using hn) fun j hl hr=>H (j+1) (by simpa using hl) (by simpa using hr))
 |[],r::rs,hn,_=>by simp at hn
 |v::l,[],hn,_=>by simp at hn
theorem CP.frame {c:Nat}{h h':Heap}{l:List AV}{rs:List Bf}(H:CP c h l rs)(hf:∀p,c<p->AA h' p=AA h p):CP c h' l rs:=by
 induction H with
 |nil=>exact .nil
 |cons a t ih=>obtain⟨w,h1,h2⟩:=a; exact .cons ⟨w,h1,h2.frame hf⟩ ih
theorem CP.length {c:Nat}{h:Heap}{l:List AV}{rs:List Bf}(H:CP c h l rs):l.length=rs.length:=by
 induction H with
 |nil=>rfl
 |cons _ _ ih=>simp[ih]
theorem CP.three {c:Nat}{h:Heap}{l:List AV}{rs:List Bf}(H:CP c h l rs):∀x∈l,x.cells.length=3:=by
 induction H with
 |nil=>simp
 |cons a t ih=>
  intro x hx
  rcases List.mem_cons.1 hx with rfl|hx
  ·obtain⟨w,rfl,_⟩:=a; rfl
  ·exact ih x hx
theorem CP.CU {c:Nat}{h:Heap}{l:List AV}{rs:List Bf}(H:CP c h l rs):∃l',Bo l' rs/\rows 3 l'.length (l'.flatMap AV.cells)=l'/\l'.length=l.length/\∀n,2<=n->CU (Cf c h n) (l.flatMap AV.cells)=some (l'.flatMap AV.cells):=by
 induction H with
 |nil=>exact⟨[],.nil,rfl,rfl,fun n _=>rfl⟩
 |cons a t ih=>
  rename_i v r l rs
  obtain⟨l',h1,h2,hl,h3⟩:=ih
  obtain⟨w,rfl,hw⟩:=a
  obtain⟨w',k1,k2⟩:=hw.Cf
  refine⟨.agg [.str r.left,w',.int .i64 r.level]::l',.cons ⟨w',rfl,k1⟩ h1,?_,by simp[hl],fun n hn=>?_⟩
  ·simp only[List.length_cons,rows,List.flatMap_cons,AV.cells]
   simp[beq_eq,h2]
  ·rw[List.flatMap_cons,List.flatMap_cons]
   refine Om ?_ (h3 n hn)
   obtain⟨m,rfl⟩:∃m,n=m+1:=⟨n-1,by omega⟩
   simp[AV.cells,Am.CU,Dv (show (AV.str r.left).CF c=true from rfl),k2 (m+1) hn,Dv (show (AV.int .i64 r.level).CF c=true from rfl)]
theorem ZY {c:Nat}{h:Heap}{kv rv:AV}{g:Ak}{ls:List AV}(hk:RG c h kv g.kinds)(hr:CP c h ls g.rules)(hrv:(rv=.AB/\g.rules=[])∨∃o cap ty ext rest,rv=.AU o 0 ls.length cap/\c<o/\AA h o=some (.cells ty 3 (ls.flatMap AV.cells++rest) ext))(n:Nat)(hn:6<=n) :
 ∃v,Cf c h n (.agg [kv,.str g.start,rv])=some v/\Bl v g:=by
 obtain⟨m,rfl⟩:∃m,n=m+6:=⟨n-6,by omega⟩
 obtain⟨kw,k1,k2⟩:=hk.Cf
 obtain⟨l',h1,h2,hl,h3⟩:=hr.CU
 have hrw:∃rw',Cf c h (m+5) rv=some rw'/\Ci rw' 3 l':=by
  rcases hrv with⟨rfl,e⟩|⟨o,cap,ty,ext,rest,rfl,ho,hf⟩
  ·rw[e] at h1; cases h1
   exact⟨.AB,Dv rfl,⟨.inl ⟨rfl,rfl⟩⟩⟩
  ·have hlen:(ls.flatMap AV.cells).length=ls.length*3:=by
    exact Av hr.three
   refine⟨_,Px (n:=m+4) (Nat.le_of_lt ho) hf (by omega) (by simp[hlen]) (cs':=l'.flatMap AV.cells) ?_,⟨.inr ⟨_,by rw[← hl,h2]⟩⟩⟩
   rw[List.drop_zero,List.take_append_of_le_length (by omega),List.take_of_length_le (by omega)]
   exact h3 (m+4) (by omega)
 obtain⟨rw',r1,r2⟩:=hrw
 refine⟨.agg [kw,.str g.start,rw'],?_,kw,rw',l',rfl,k1,r2,h1⟩
 exact Xq (by simp[CU,k2 (m+5) (by omega),Dv (show (AV.str g.start).CF c=true from rfl),r1]) (by omega)
structure Br (c o:Nat)(vs:AV)(a:Int)(st0 st:St):Prop where
 hb:HB st
 lo:st.lo=st0.lo
 MP:st0.lo<=o
 oc:o<c
 GI:AA st.h o=some (.cells 25 2 [vs,.int .i64 a] false)
 CF:∀p,p<c->p≠o->AA st.h p=AA st0.h p
 mem:∀p x,(p,x)∈st.h->p<c->(p,x)∈st0.h∨(p=o/\∃b:Int,x=.cells 25 2 [vs,.int .i64 b] false)
theorem Br.st {c o:Nat}{vs:AV}{a:Int}{st0 st:St}(H:Br c o vs a st0 st):Ib st o vs a:=⟨H.GI,by rw[H.lo]; exact H.MP⟩
theorem Br.cons {c o:Nat}{vs:AV}{a:Int}{st0 st:St}(H:Br c o vs a st0 st){p:Nat}{x:Al}{n:Nat}(hp:c<=p)(hn:p<n)(hc:st.c<=n):Br c o vs a st0 ⟨(p,x)::st.h,n,st.lo⟩ where
 hb:=fun q y hq=>by
  rcases List.mem_cons.1 hq with h|h
  ·cases h; exact hn
  ·exact Nat.lt_of_lt_of_le (H.hb q y h) hc
 lo:=H.lo
 MP:=H.MP
 oc:=H.oc
 GI:=by have:=H.oc; simp[AJ,show ¬p=o by omega,H.GI]
 CF:=fun q hq hne=>by simp[AJ,show ¬p=q by omega,H.CF q hq hne]
 mem:=fun q y hq hc=>by
  rcases List.mem_cons.1 hq with h|h
  ·cases h; omega
  ·exact H.mem q y h hc
theorem Br.Aa {c o:Nat}{vs:AV}{a:Int}{st0 st:St}(H:Br c o vs a st0 st){p:Nat}{x y:Al}(hp:c<=p)(hf:AA st.h p=some y):Br c o vs a st0 { st with h:=Aa st.h p x } where
 hb:=fun q z hq=>by obtain⟨z',h⟩:=IQ hq; exact H.hb q z' h
 lo:=H.lo
 MP:=H.MP
 oc:=H.oc
 GI:=by have:=H.oc; simp[AY hf,show ¬p=o by omega,H.GI]
 CF:=fun q hq hne=>by simp[AY hf,show ¬p=q by omega,H.CF q hq hne]
 mem:=fun q z hq hc=>by
  rcases Fu hq with h|h
  ·omega
  ·exact H.mem q z h hc
theorem Br.GL {c o:Nat}{vs:AV}{a:Int}{st0 st:St}(H:Br c o vs a st0 st){p:Nat}(hp:c<=p):Br c o vs a st0 { st with h:=GL st.h p } where
 hb:=fun q z hq=>H.hb q z (QT hq)
 lo:=H.lo
 MP:=H.MP
 oc:=H.oc
 GI:=by have:=H.oc; simp[Dz,show ¬p=o by omega,H.GI]
 CF:=fun q hq hne=>by simp[Dz,show ¬p=q by omega,H.CF q hq hne]
 mem:=fun q z hq hc=>H.mem q z (QT hq) hc
theorem Br.tick {c o:Nat}{vs:AV}{a:Int}{st0 st:St}(H:Br c o vs a st0 st)(b:Int):Br c o vs b st0 (tick st o vs b) where
 hb:=fun q z hq=>by obtain⟨z',h⟩:=IQ hq; exact H.hb q z' h
 lo:=H.lo
 MP:=H.MP
 oc:=H.oc
 GI:=by simp[Am.tick,AY H.GI]
 CF:=fun q hq hne=>by simp[Am.tick,AY H.GI,Ne.symm hne,H.CF q hq hne]
 mem:=fun q z hq hc=>by
  rcases Fu hq with h|h
  ·exact .inr ⟨h.1,b,h.2⟩
  ·exact H.mem q z h hc
theorem Cj {st:St}{o:Nat}{vs:AV}{a b:Int}(h:AA st.h o=some (.cells 25 2 [vs,.int .i64 a] false)){p:Nat}(hp:p≠o):AA (tick st o vs b).h p=AA st.h p:=by simp[tick,AY h,Ne.symm hp]
structure GS (c o:Nat)(vs:AV)(a:Int)(st0 st:St)(g:Ak)(kv:AV)(BC:Nat)(ls:List AV):Prop where
 k:Br c o vs a st0 st
 cc:c+2<=st.c
 MV:AA st.h (c+1)=some (.cells 29 3 [kv,.str g.start,.AU BC 0 ls.length none] false)
 Xu:AA st.h c=some (.cells 29 3 [.AB,.str [],.AB] false)
 m:Vv (c+2) st g kv BC ls
structure GF (c o:Nat)(vs:AV)(a:Int)(st0 st:St)(g:Ak):Prop where
 k:Br c o vs a st0 st
 cc:c+2<=st.c
 Xu:AA st.h c=some (.cells 29 3 [.AB,.str [],.AB] false)
 small:g.Small
 MV:∃kv rv ls,AA st.h (c+1)=some (.cells 29 3 [kv,.str g.start,rv] false)/\RG c st.h kv g.kinds/\CP c st.h ls g.rules /\
  ((rv=.AB/\g.rules=[])∨∃p cap ty ext rest,rv=.AU p 0 ls.length cap/\c<p/\AA st.h p=some (.cells ty 3 (ls.flatMap AV.cells++rest) ext))
theorem Jw.of {c:Nat}{h:Heap}{v:AV}{r:Bf}(H:OB h v r)(hc:∀o,GQ v=some o->c<o):Jw c h v r:=by
 obtain⟨w,rfl,h2⟩:=H
 exact⟨w,rfl,RG.of h2 hc⟩
theorem Vv.th {c c0:Nat}{st:St}{g:Ak}{kv:AV}{BC:Nat}{ls:List AV}(H:Vv c0 st g kv BC ls)(hc:c<c0):CP c st.h ls g.rules:=
 CP.Mh H.ln fun j hl hr=>Jw.of (H.each j hl hr).1 fun o ho=>by have:=((H.each j hl hr).2 o ho).1; have:=H.LC.1; omega
theorem GS.fin {c o:Nat}{vs:AV}{a:Int}{st0 st:St}{g:Ak}{kv:AV}{BC:Nat}{ls:List AV}(H:GS c o vs a st0 st g kv BC ls)(hs:g.Small):GF c o vs a st0 st g:=
 ⟨H.k,H.cc,H.Xu,hs,kv,_,ls,H.MV,RG.of H.m.kinds fun o ho=>by have:=(H.m.iH o ho).1; omega,H.m.th (by omega),.inr ⟨BC,none,47,true,[],rfl,by have:=H.m.LC.1; omega,by rw[List.append_nil]; exact H.m.rules⟩⟩
theorem GS.NW {c o:Nat}{vs:AV}{a:Int}{st0 st:St}{g:Ak}{kv:AV}{BC:Nat}{ls:List AV}(H:GS c o vs a st0 st g kv BC ls){h':Heap}(hf:∀p,BR kv=some p->AA h' p=AA st.h p):RG c h' kv g.kinds:=
 RG.of (H.m.kinds.heap hf) fun p hp=>by have:=(H.m.iH p hp).1; omega
theorem GS.WX {c o:Nat}{vs:AV}{a:Int}{st0 st:St}{g:Ak}{kv:AV}{BC:Nat}{ls:List AV}(H:GS c o vs a st0 st g kv BC ls){h':Heap}{j:Nat}(hl:j<ls.length)(hr:j<g.rules.length)(hf:∀p,GQ ls[j]=some p->AA h' p=AA st.h p):Jw c h' ls[j] g.rules[j]:=
 Jw.of ((H.m.each j hl hr).1.heap hf) fun p hp=>by have:=((H.m.each j hl hr).2 p hp).1; have:=H.m.LC.1; omega
theorem GS.NL {c o:Nat}{vs:AV}{a:Int}{st0 st:St}{g:Ak}{kv:AV}{BC:Nat}{ls:List AV}(H:GS c o vs a st0 st g kv BC ls){h':Heap}(hf:∀p,BC<p->p<st.c->AA h' p=AA st.h p):CP c h' ls g.rules:=
 CP.Mh H.m.ln fun j hl hr=>H.WX hl hr fun p hp=>hf p ((H.m.each j hl hr).2 p hp).1 ((H.m.each j hl hr).2 p hp).2
theorem GS.NY {c o:Nat}{vs:AV}{a:Int}{st0 st:St}{g:Ak}{kv:AV}{BC:Nat}{ls:List AV}(H:GS c o vs a st0 st g kv BC ls){p:Nat}(hp:BR kv=some p):c+2<=p/\p<BC/\BC<st.c:=⟨(H.m.iH p hp).1,(H.m.iH p hp).2,H.m.LC.2⟩
theorem Hr {h:Heap}{id ty o:Nat}{xs:List AV}{ext:Bool}{cap:Option Nat}(hf:AA h id=some (.cells ty 1 xs ext))(ho:id≠o):Tn (o:=o) h (.AU id 0 xs.length cap) xs where
 len:=rfl
 at_:=fun i hi st hs=>by
  have h2:=hs id _ hf ho
  refine⟨.AO id i,?_,?_⟩
  ·simp[Ad,Bd,h2,blt_eq,hi,beq_eq]
  ·rw[AL h2,List.getElem?_eq_getElem hi]
theorem QC {k:Nat}{st:St}{o:Nat}{v:AV}{zs:List Int}{a:Int}(hs:Ib st o v a)(hv:CB v zs)(ha:0<=a/\a<1000000000){w:AV}{l:List AV}(hw:Tn (o:=o) st.h w l)(h0:0<l.length)(hb:l.length<1000000000) :
 AX E (k+3) 21 [.AO o 0,w] st=.ret (l.getD (BK zs (a+1) l.length).toNat .undef,tick st o v (a+1)):=
 UD hs hv ha hw h0 hb 21 C.f21 rfl rfl rfl (.inr rfl) rfl
theorem aa {k:Nat}{st:St}{o:Nat}{v:AV}{zs:List Int}{a:Int}(hs:Ib st o v a)(hv:CB v zs)(ha:0<=a/\a<1000000000){w:AV}{l:List AV}(hw:Tn (o:=o) st.h w l)(h0:0<l.length)(hb:l.length<1000000000) :
 AX E (k+3) 51 [.AO o 0,w] st=.ret (l.getD (BK zs (a+1) l.length).toNat .undef,tick st o v (a+1)):=
 UD hs hv ha hw h0 hb 51 C.f51 rfl rfl rfl (.inl rfl) rfl
theorem Hz {zs:List Int}{a:Int}{l:List AV}(h0:0<l.length):l.getD (BK zs (a+1) l.length).toNat .undef∈l:=by
 have hr:=Cg (zs:=zs) (a:=a+1) (n:=l.length) (by omega)
 have:(BK zs (a+1) l.length).toNat<l.length:=by omega
 rw[List.getD_eq_getElem?_getD,List.getElem?_eq_getElem this]
 exact List.getElem_mem this
section
variable {c o:Nat}{vs:AV}{zs:List Int}{a:Int}{st0 st:St}{g:Ak}{kv:AV}{BC:Nat}{ls:List AV}{ts:TS}{k:Nat}
def Fg (c o:Nat)(vs:AV)(a:Int)(st0:St)(ts:TS)(r:Jl × TS × St):Prop:=
 r.1=.normal/\r.2.1.get 2=ts.get 2/\r.2.1.get 3=ts.get 3/\∃g m,0<=m/\m<=5/\GF c o vs (a+m) st0 r.2.2 g
theorem lh (hv:CB vs zs)(ha:0<=a/\a<100000)(H:GS c o vs a st0 st g kv BC ls)(hs:g.Small)(h0:ts.get 0=.AO o 0)(h3:ts.get 3=.AO (c+1) 0) :
 (BF E (AX E (k+3)) C.f19L13 ts st).to (Fg c o vs a st0 ts):=by
 let xs:List AV:=[.str [97],.str [],.str [120],.str [116]]
 have hoc:=H.k.oc
 have hcc:=H.cc
 have K1:=H.k.cons (p:=st.c) (x:=.cells 9 1 xs false) (n:=st.c+1) (by omega) (by omega) (by omega)
 have hf1:AA ((st.c,Al.cells 9 1 xs false)::st.h) st.c=some (.cells 9 1 xs false):=by simp[AJ]
 have hsome:=QC (k:=k) K1.st hv (by omega) (Hr (cap:=some 4) hf1 (show st.c≠o by omega)) (by simp[xs]) (by simp[xs])
 obtain⟨s,hsx,hs50⟩:∃s:BB,xs.getD (BK zs (a+1) xs.length).toNat .undef=.str s/\s.length<=50:=by
  have:=Hz (zs:=zs) (a:=a) (l:=xs) (by simp[xs])
  generalize xs.getD (BK zs (a+1) xs.length).toNat .undef=x at this
  simp[xs] at this
  rcases this with rfl|rfl|rfl|rfl <;> exact⟨_,rfl,by simp⟩
 rw[hsx] at hsome
 have K2:=K1.tick (a+1)
 have hg2:AA (tick ⟨(st.c,Al.cells 9 1 xs false)::st.h,st.c+1,st.lo⟩ o vs (a+1)).h (c+1)=some (.cells 29 3 [kv,.str g.start,.AU BC 0 ls.length none] false):=by
  rw[Cj K1.GI (by omega)]; simp[AJ,show ¬st.c=c+1 by omega,H.MV]
 have hsto:=Cr (off:=1) (v:=.str s) hg2 (by rw[K2.lo]; have:=H.k.MP; omega) (by simp) rfl rfl
 have hb':∀p x,(p,x)∈st.h->p<st.c:=H.k.hb
 simp only[List.set_cons_succ,List.set_cons_zero] at hsto
 simp[xs] at hsome hsto
 simp[C.f19L13,h0,h3,Ar,blt_eq,beq_eq,ble_eq,BA,BS,AV.isTuple,AV.cells,Ao hb',hsome,hsto,Fg]
 have K3:=K2.Aa (p:=c+1) (x:=.cells 29 3 [kv,.str s,.AU BC 0 ls.length none] false) (by omega) hg2
 have hfr:∀p,p<st.c->p≠o->p≠c+1->AA (Aa (tick ⟨(st.c,.cells 9 1 xs false)::st.h,st.c+1,st.lo⟩ o vs (a+1)).h (c+1) (.cells 29 3 [kv,.str s,.AU BC 0 ls.length none] false)) p=AA st.h p:=fun p h1 h2 h3=>by
  rw[AY hg2,if_neg (Ne.symm h3),Cj K1.GI h2]
  simp[AJ,show ¬st.c=p by omega]
 have hrid:=H.m.LC
 refine⟨{ g with start:=s },1,by omega,by omega,K3,by show c+2<=st.c+1; omega,?_,⟨hs.kinds,hs.names,hs50,hs.many,hs.rules⟩,kv,_,ls,by show AA (Aa _ _ _) (c+1)=_; rw[AY hg2,if_pos rfl],H.NW fun p hp=>?_,H.NL fun p h1 h2=>?_,.inr ⟨BC,none,47,true,[],rfl,by omega,?_⟩⟩
 ·show AA (Aa _ _ _) c=_
  rw[hfr c (by omega) (by omega) (by omega)]; exact H.Xu
 ·have:=H.NY hp
  exact hfr p (by omega) (by omega) (by omega)
 ·exact hfr p (by omega) (by omega) (by omega)
 ·show AA (Aa _ _ _) BC=_
  rw[hfr BC (by omega) (by omega) (by omega),List.append_nil]; exact H.m.rules
end
theorem Nh {a b c w:AV}:∀{ls:List AV} {i:Nat},(∀x∈ls,x.cells.length=3)->ls[i]? =some (.agg [a,b,c])->(ls.flatMap AV.cells).set (3*i) w=(ls.set i (.agg [w,b,c])).flatMap AV.cells
 |[],i,_,h=>by simp at h
 |x::ls,0,hc,h=>by simp at h; subst h; simp[AV.cells]
 |x::ls,i+1,hc,h=>by
  have hx:=hc x (by simp)
  have ih:=Nh (w:=w) (ls:=ls) (i:=i) (fun y hy=>hc y (by simp[hy])) (by simpa using h)
  rw[List.flatMap_cons,List.set_append_right _ _ (by omega),hx,show 3*(i+1)-3=3*i by omega,ih]
  simp
theorem Ng {a b c w:AV}:∀{ls:List AV} {i:Nat},(∀x∈ls,x.cells.length=3)->ls[i]? =some (.agg [a,b,c])->(ls.flatMap AV.cells).set (3*i+2) w=(ls.set i (.agg [a,b,w])).flatMap AV.cells
 |[],i,_,h=>by simp at h
 |x::ls,0,hc,h=>by simp at h; subst h; simp[AV.cells]
 |x::ls,i+1,hc,h=>by
  have hx:=hc x (by simp)
  have ih:=Ng (w:=w) (ls:=ls) (i:=i) (fun y hy=>hc y (by simp[hy])) (by simpa using h)
  rw[List.flatMap_cons,List.set_append_right _ _ (by omega),hx,show 3*(i+1)+2-3=3*i+2 by omega,ih]
  simp
section
variable {c o:Nat}{vs:AV}{zs:List Int}{a:Int}{st0 st:St}{g:Ak}{kv:AV}{BC:Nat}{ls:List AV}{ts:TS}{k:Nat}
theorem GS.Pf (H:GS c o vs a st0 st g kv BC ls)(hs:g.Small){a':Int}{st':St}{i:Nat}(hi:i<ls.length){v':AV}{r':Bf}(K':Br c o vs a' st0 st')(cc:c+2<=st'.c)(hg:AA st'.h (c+1)=some (.cells 29 3 [kv,.str g.start,.AU BC 0 ls.length none] false))(hq:AA st'.h c=AA st.h c)(hr:AA st'.h BC=some (.cells 47 3 ((ls.set i v').flatMap AV.cells) true))(hk:∀p,BR kv=some p->AA st'.h p=AA st.h p)(ho:∀p,BC<p->p<st.c->GQ ls[i]≠some p->AA st'.h p=AA st.h p)(hv:Jw c st'.h v' r')(hsr:r'.Small) :
 GF c o vs a' st0 st' { g with rules:=g.rules.set i r' }:=by
 have hrid:=H.m.LC
 have hcc:=H.cc
 refine⟨K',cc,hq.trans H.Xu,⟨hs.kinds,hs.names,hs.start,by simpa using hs.many,fun r hr=>?_⟩,kv,.AU BC 0 ls.length none,ls.set i v',hg,H.NW hk,CP.Mh (by simp[H.m.ln]) fun j hl hr2=>?_,.inr ⟨BC,none,47,true,[],by simp,by omega,by rw[List.append_nil]; exact hr⟩⟩
 ·rcases List.mem_or_eq_of_mem_set hr with h|h
  ·exact hs.rules r h
  ·subst h; exact hsr
 ·by_cases e:j=i
  ·subst e
   simp only[List.getElem_set_self]; exact hv
  ·simp only[List.getElem_set_ne (Ne.symm e)]
   have hl':j<ls.length:=by simpa using hl
   refine H.WX hl' (by simpa using hr2) fun p hp=>?_
   have:=(H.m.each j hl' (by simpa using hr2)).2 p hp
   exact ho p this.1 this.2 fun h=>e (H.m.inj j i hl' hi p hp h)
theorem GS.Yr (H:GS c o vs a st0 st g kv BC ls){i:Nat}(hi:i<ls.length):∃(hr:i<g.rules.length) (w:AV),ls[i]=.agg [.str g.rules[i].left,w,.int .i64 g.rules[i].level]/\LH st.h 9 1 w (strs g.rules[i].right):=by
 have hr:i<g.rules.length:=by rw[← H.m.ln]; exact hi
 obtain⟨w,h1,h2⟩:=(H.m.each i hi hr).1
 exact⟨hr,w,h1,h2⟩
theorem lg (hv:CB vs zs)(ha:0<=a/\a<100000)(H:GS c o vs a st0 st g kv BC ls)(hs:g.Small)(h0:ts.get 0=.AO o 0)(h3:ts.get 3=.AO (c+1) 0){i:Nat}(hi:i<ls.length)(h4:ts.get 4=.int .i64 (i:Int)) :
 (BF E (AX E (k+3)) C.f19L11 ts st).to (Fg c o vs a st0 ts):=by
 obtain⟨hr,w,hli,hw⟩:=H.Yr hi
 have hrid:=H.m.LC
 have hoc:=H.k.oc
 have hcc:=H.cc
 have K1:=H.k.cons (p:=st.c) (x:=.cells 9 1 [.str [97],.str [81],.str [],.str [95,120],.str [116],.str [110,117,109]] false) (n:=st.c+1) (by omega) (by omega) (by omega)
 have hf1:AA ((st.c,Al.cells 9 1 [.str [97],.str [81],.str [],.str [95,120],.str [116],.str [110,117,109]] false)::st.h) st.c=some (.cells 9 1 [.str [97],.str [81],.str [],.str [95,120],.str [116],.str [110,117,109]] false):=by simp[AJ]
 have hsome:=QC (k:=k) K1.st hv (by omega) (Hr (cap:=some 6) hf1 (show st.c≠o by omega)) (by simp) (by simp)
 obtain⟨s,hsx,hs50⟩:∃s:BB,[AV.str [97],.str [81],.str [],.str [95,120],.str [116],.str [110,117,109]].getD (BK zs (a+1) [AV.str [97],.str [81],.str [],.str [95,120],.str [116],.str [110,117,109]].length).toNat .undef=.str s/\s.length<=50:=by
  have:=Hz (zs:=zs) (a:=a) (l:=[AV.str [97],.str [81],.str [],.str [95,120],.str [116],.str [110,117,109]]) (by simp)
  generalize List.getD _ _ _=x at this
  simp at this
  rcases this with rfl|rfl|rfl|rfl|rfl|rfl <;> exact⟨_,rfl,by simp⟩
 rw[hsx] at hsome
 have K2:=K1.tick (a+1)
 generalize hS2:tick ⟨(st.c,Al.cells 9 1 [.str [97],.str [81],.str [],.str [95,120],.str [116],.str [110,117,109]] false)::st.h,st.c+1,st.lo⟩ o vs (a+1)=S2 at K2 hsome
 have hS2c:S2.c=st.c+1:=by rw[← hS2]; rfl
 have hfr:∀p,p<st.c->p≠o->AA S2.h p=AA st.h p:=fun p h1 h2=>by
  rw[← hS2,Cj K1.GI h2]; simp[AJ,show ¬st.c=p by omega]
 have hr2:AA S2.h BC=some (.cells 47 3 (ls.flatMap AV.cells) true):=by rw[hfr BC (by omega) (by omega)]; exact H.m.rules
 have hg2:AA S2.h (c+1)=some (.cells 29 3 [kv,.str g.start,.AU BC 0 ls.length none] false):=by rw[hfr _ (by omega) (by omega)]; exact H.MV
 have hlen3:(ls.flatMap AV.cells).length=ls.length*3:=Av H.m.three
 have hsto:=Cr (st:=S2) (off:=3*i) (v:=.str s) hr2 (by rw[K2.lo]; have:=H.k.MP; omega) (by rw[hlen3]; omega) rfl rfl
 rw[Nh H.m.three (show ls[i]? =some (.agg [.str g.rules[i].left,w,.int .i64 g.rules[i].level]) by rw[List.getElem?_eq_getElem hi,hli])] at hsto
 have hb':∀p x,(p,x)∈st.h->p<st.c:=H.k.hb
 have hl1:AP st.h (.AO (c+1) 2)=some (.AU BC 0 ls.length none):=by rw[AL H.MV]; rfl
 have hl2:AP S2.h (.AO (c+1) 2)=some (.AU BC 0 ls.length none):=by rw[AL hg2]; rfl
 simp at hsome
 simp[C.f19L11,h0,h3,h4,Gz,IY,Dw,Da,Fj,hl1,hl2,AV.Fe,Ar,blt_eq,beq_eq,ble_eq,BA,BS,AV.isTuple,AV.cells,Ao hb',hsome,PW hr2 hi,hsto,Fg]
 refine⟨_,1,by omega,by omega,H.Pf hs (a':=a+1) hi (r':=⟨s,g.rules[i].right,g.rules[i].level⟩) (v':=.agg [.str s,w,.int .i64 g.rules[i].level]) (K2.Aa (by omega) hr2) (by show c+2<=S2.c; omega) ?_ ?_ ?_ (fun p hp=>?_) (fun p h1 h2 _=>?_) ?_ ?_⟩
 ·show AA (Aa _ _ _) (c+1)=_
  rw[AY hr2,if_neg (by omega)]; exact hg2
 ·show AA (Aa _ _ _) c=_
  rw[AY hr2,if_neg (by omega)]; exact hfr c (by omega) (by omega)
 ·show AA (Aa _ _ _) BC=_
  rw[AY hr2,if_pos rfl]
 ·have:=H.NY hp
  show AA (Aa _ _ _) p=_
  rw[AY hr2,if_neg (by omega)]; exact hfr p (by omega) (by omega)
 ·show AA (Aa _ _ _) p=_
  rw[AY hr2,if_neg (by omega)]; exact hfr p (by omega) (by omega)
 ·refine⟨w,rfl,RG.of (hw.heap fun p hp=>?_) fun p hp=>?_⟩
  ·have:=(H.m.each i hi hr).2 p (by rw[hli]; exact hp)
   show AA (Aa _ _ _) p=_
   rw[AY hr2,if_neg (by omega)]; exact hfr p (by omega) (by omega)
  ·have:=(H.m.each i hi hr).2 p (by rw[hli]; exact hp)
   omega
 ·have:=hs.rules _ (List.getElem_mem hr)
  exact⟨hs50,this.right,this.names,this.level⟩
end
section
variable {c o:Nat}{vs:AV}{zs:List Int}{a:Int}{st0 st:St}{g:Ak}{kv:AV}{BC:Nat}{ls:List AV}{ts:TS}{k:Nat}
theorem lY (hv:CB vs zs)(ha:0<=a/\a<100000)(H:GS c o vs a st0 st g kv BC ls)(hs:g.Small)(h0:ts.get 0=.AO o 0)(h3:ts.get 3=.AO (c+1) 0){i:Nat}(hi:i<ls.length)(h4:ts.get 4=.int .i64 (i:Int)) :
 (BF E (AX E (k+3)) C.f19L7 ts st).to (Fg c o vs a st0 ts):=by
 obtain⟨hr,w,hli,hw⟩:=H.Yr hi
 have hrid:=H.m.LC
 have hoc:=H.k.oc
 have hcc:=H.cc
 have K1:=H.k.cons (p:=st.c) (x:=.cells 3 1 [.int .i64 (-1),.int .i64 99,.int .i64 100,.int .i64 1,.int .i64 (-9223372036854775808)] false) (n:=st.c+1) (by omega) (by omega) (by omega)
 have hf1:AA ((st.c,Al.cells 3 1 [.int .i64 (-1),.int .i64 99,.int .i64 100,.int .i64 1,.int .i64 (-9223372036854775808)] false)::st.h) st.c=some (.cells 3 1 [.int .i64 (-1),.int .i64 99,.int .i64 100,.int .i64 1,.int .i64 (-9223372036854775808)] false):=by simp[AJ]
 have hsome:=aa (k:=k) K1.st hv (by omega) (Hr (cap:=some 5) hf1 (show st.c≠o by omega)) (by simp) (by simp)
 obtain⟨s,hsx,hs50⟩:∃s:Int,[AV.int .i64 (-1),.int .i64 99,.int .i64 100,.int .i64 1,.int .i64 (-9223372036854775808)].getD (BK zs (a+1) [AV.int .i64 (-1),.int .i64 99,.int .i64 100,.int .i64 1,.int .i64 (-9223372036854775808)].length).toNat .undef=.int .i64 s/\(-9223372036854775808<=s/\s<9223372036854775808):=by
  have:=Hz (zs:=zs) (a:=a) (l:=[AV.int .i64 (-1),.int .i64 99,.int .i64 100,.int .i64 1,.int .i64 (-9223372036854775808)]) (by simp)
  generalize List.getD _ _ _=x at this
  simp at this
  rcases this with rfl|rfl|rfl|rfl|rfl <;> exact⟨_,rfl,by omega⟩
 rw[hsx] at hsome
 have K2:=K1.tick (a+1)
 generalize hS2:tick ⟨(st.c,Al.cells 3 1 [.int .i64 (-1),.int .i64 99,.int .i64 100,.int .i64 1,.int .i64 (-9223372036854775808)] false)::st.h,st.c+1,st.lo⟩ o vs (a+1)=S2 at K2 hsome
 have hS2c:S2.c=st.c+1:=by rw[← hS2]; rfl
 have hfr:∀p,p<st.c->p≠o->AA S2.h p=AA st.h p:=fun p h1 h2=>by
  rw[← hS2,Cj K1.GI h2]; simp[AJ,show ¬st.c=p by omega]
 have hr2:AA S2.h BC=some (.cells 47 3 (ls.flatMap AV.cells) true):=by rw[hfr BC (by omega) (by omega)]; exact H.m.rules
 have hg2:AA S2.h (c+1)=some (.cells 29 3 [kv,.str g.start,.AU BC 0 ls.length none] false):=by rw[hfr _ (by omega) (by omega)]; exact H.MV
 have hlen3:(ls.flatMap AV.cells).length=ls.length*3:=Av H.m.three
 have hsto:=Cr (st:=S2) (off:=3*i+2) (v:=.int .i64 s) hr2 (by rw[K2.lo]; have:=H.k.MP; omega) (by rw[hlen3]; omega) rfl rfl
 rw[Ng H.m.three (show ls[i]? =some (.agg [.str g.rules[i].left,w,.int .i64 g.rules[i].level]) by rw[List.getElem?_eq_getElem hi,hli])] at hsto
 have hb':∀p x,(p,x)∈st.h->p<st.c:=H.k.hb
 have hl1:AP st.h (.AO (c+1) 2)=some (.AU BC 0 ls.length none):=by rw[AL H.MV]; rfl
 have hl2:AP S2.h (.AO (c+1) 2)=some (.AU BC 0 ls.length none):=by rw[AL hg2]; rfl
 simp at hsome
 simp[C.f19L7,h0,h3,h4,Gz,IY,Dw,Da,Fj,hl1,hl2,AV.Fe,Ar,blt_eq,beq_eq,ble_eq,BA,BS,AV.isTuple,AV.cells,Ao hb',hsome,PW hr2 hi,hsto,Fg]
 refine⟨_,1,by omega,by omega,H.Pf hs (a':=a+1) hi (r':=⟨g.rules[i].left,g.rules[i].right,s⟩) (v':=.agg [.str g.rules[i].left,w,.int .i64 s]) (K2.Aa (by omega) hr2) (by show c+2<=S2.c; omega) ?_ ?_ ?_ (fun p hp=>?_) (fun p h1 h2 _=>?_) ?_ ?_⟩
 ·show AA (Aa _ _ _) (c+1)=_
  rw[AY hr2,if_neg (by omega)]; exact hg2
 ·show AA (Aa _ _ _) c=_
  rw[AY hr2,if_neg (by omega)]; exact hfr c (by omega) (by omega)
 ·show AA (Aa _ _ _) BC=_
  rw[AY hr2,if_pos rfl]
 ·have:=H.NY hp
  show AA (Aa _ _ _) p=_
  rw[AY hr2,if_neg (by omega)]; exact hfr p (by omega) (by omega)
 ·show AA (Aa _ _ _) p=_
  rw[AY hr2,if_neg (by omega)]; exact hfr p (by omega) (by omega)
 ·refine⟨w,rfl,RG.of (hw.heap fun p hp=>?_) fun p hp=>?_⟩
  ·have:=(H.m.each i hi hr).2 p (by rw[hli]; exact hp)
   show AA (Aa _ _ _) p=_
   rw[AY hr2,if_neg (by omega)]; exact hfr p (by omega) (by omega)
  ·have:=(H.m.each i hi hr).2 p (by rw[hli]; exact hp)
   omega
 ·have:=hs.rules _ (List.getElem_mem hr)
  exact⟨this.left,this.right,this.names,hs50⟩
end
theorem JW {st:St}{c o:Nat}{vs:AV}{a:Int}{st0:St}{ty sz bytes id e:Nat}{w x:AV}{xs:List AV}(K:Br c o vs a st0 st)(H:LH st.h ty sz w xs)(hw:∀p,BR w=some p->c<=p/\p<id)(hsz:0<sz)(hbt:bytes<=1000)(hl:xs.length<=1000)(he:AA st.h e=some (.cells ty sz x.cells false))(hx:x.cells.length=sz)(hid:∀p y,(p,y)∈st.h->p<id)(hc:id<st.c)(hci:c<=id) :
 ∃st',Bq id ty sz bytes w (.AU e 0 1 (some 1)) st=some (.AU id 0 (xs.length+1) none,st')/\st'.c=st.c/\Br c o vs a st0 st'/\AA st'.h id=some (.cells ty sz ((xs++[x]).flatMap AV.cells) true) /\
  (∀p,p≠id->BR w≠some p->AA st'.h p=AA st.h p):=by
 have hz:Nat.beq sz 0=false:=by rw[beq_eq]; simp; omega
 have hss:Nat.beq sz sz=true:=Nat.beq_refl sz
 have htt:Nat.beq ty ty=true:=Nat.beq_refl ty
 have hsz0:sz≠0:=by omega
 have hcs:Au st.h sz 1 (.AU e 0 1 (some 1))=some x.cells:=by
  simp[Au,he,hss,ble_eq,hx]
  rw[← hx,List.take_length]
 have hroom:(xs.length+1)*bytes<=room/\xs.length+1<=room:=by
  have:=Nat.mul_le_mul (show xs.length+1<=1001 by omega) hbt
  unfold room
  constructor <;> omega
 have grow1:∀(h:Heap),(∀p y,(p,y)∈h->p<id)->∀cs,grow id ty sz bytes xs.length 1 cs ⟨h,st.c,st.lo⟩=some (.AU id 0 (xs.length+1) none,⟨(id,.cells ty sz cs true)::h,st.c,st.lo⟩):=fun h hh cs=>by
  simp[grow,ble_eq,hroom.1,hroom.2,Ao hh]
 have est:st=⟨st.h,st.c,st.lo⟩:=rfl
 cases H with
 |nl=>
  refine⟨⟨(id,.cells ty sz x.cells true)::st.h,st.c,st.lo⟩,?_,rfl,K.cons hci hc (Nat.le_refl _),by simp[AJ],fun p hp _=>by simp[AJ,Ne.symm hp]⟩
  have:=grow1 st.h hid x.cells
  simp only[List.length_nil] at this
  simp only[Bq,lenOf,hcs,BV,hz,cond_false]
  simp only[show Nat.beq 1 0=false from rfl,cond_false]
  exact this
 |mt i2 ext hf=>
  refine⟨⟨(id,.cells ty sz x.cells true)::st.h,st.c,st.lo⟩,?_,rfl,K.cons hci hc (Nat.le_refl _),by simp[AJ],fun p hp _=>by simp[AJ,Ne.symm hp]⟩
  have:=grow1 st.h hid x.cells
  simp only[List.length_nil] at this
  simp only[Bq,lenOf,hcs,BV,hz,cond_false]
  simp only[show Nat.beq 1 0=false from rfl,cond_false,Dr,hf,htt,hss,List.length_nil,Nat.zero_mul,Nat.add_zero,Nat.zero_add,Bool.and_self,Bool.true_and,cond_true,List.drop_nil,List.take_nil,List.nil_append]
  exact this
 |ob i2 xs h0 h1 hf=>
  have hi2:=hw i2 rfl
  have hlen3:=Av h1
  refine⟨⟨(id,.cells ty sz (xs.flatMap AV.cells++x.cells) true)::GL st.h i2,st.c,st.lo⟩,?_,rfl,(K.GL hi2.1).cons hci hc (Nat.le_refl _),by simp[AJ],fun p hp hne=>?_⟩
  ·have:=grow1 (GL st.h i2) (fun p y hm=>hid p y (QT hm)) (xs.flatMap AV.cells++x.cells)
   have hb1:Nat.ble (xs.length*sz) (xs.flatMap AV.cells).length=true:=Nat.ble_eq_true_of_le (by omega)
   have hb2:Nat.ble ((xs.length+1)*sz) (xs.flatMap AV.cells).length=false:=by rw[ble_eq,hlen3]; simp[Nat.succ_mul]; omega
   have hlo:Nat.ble st.lo i2=true:=Nat.ble_eq_true_of_le (by rw[K.lo]; have:=K.MP; have:=K.oc; omega)
   have htk:(xs.flatMap AV.cells).take (xs.length*sz)=xs.flatMap AV.cells:=List.take_of_length_le (by omega)
   simp only[Bq,lenOf,hcs,BV,hz,cond_false]
   simp only[show Nat.beq 1 0=false from rfl,cond_false,Dr,hf,htt,hss,Nat.zero_add,hb1,hb2,hlo,Bool.and_self,Bool.true_and,cond_true,List.drop_zero,htk]
   exact this
  ·have:i2≠p:=fun e=>hne (by rw[e]; rfl)
   simp[AJ,Ne.symm hp,Dz,this]
section
variable {c o:Nat}{vs:AV}{zs:List Int}{a:Int}{st0 st:St}{g:Ak}{kv:AV}{BC:Nat}{ls:List AV}{ts:TS}{k:Nat}
theorem Wd {k:Nat}{st:St}:AX E (k+1) 50 [.str [122],.int .i64 41] st=.ret (.str (repeated [122] 41),st):=JY (g:=fun _=>hRepeat) rfl rfl
theorem OH (l:List BB)(s:BB):strs l++[.str s]=strs (l++[s]):=by simp[strs]
theorem LH.TC {h:Heap}{id:Nat}{l:List BB}(h0:l≠[])(hf:AA h id=some (.cells 9 1 ((strs l).flatMap AV.cells) true)):LH h 9 1 (.AU id 0 l.length none) (strs l):=by
 have:=LH.ob (h:=h) (ty:=9) (sz:=1) id (strs l) (by simpa [strs] using h0) (fun x hx=>by obtain⟨s,_,rfl⟩:=List.mem_map.1 hx; rfl) hf
 simpa using this
theorem ll (hv:CB vs zs)(ha:0<=a/\a<100000)(H:GS c o vs a st0 st g kv BC ls)(hs:g.Small)(hk9:g.kinds.length<=9)(h0:ts.get 0=.AO o 0)(h3:ts.get 3=.AO (c+1) 0) :
 (BF E (AX E (k+3)) C.f19L15 ts st).to (Fg c o vs a st0 ts):=by
 have hrid:=H.m.LC
 have hoc:=H.k.oc
 have hcc:=H.cc
 have K1:=H.k.cons (p:=st.c) (x:=.cells 9 1 [.str [97],.str [65],.str [],.str [122,95,57],.str (repeated [122] 41)] false) (n:=st.c+3) (by omega) (by omega) (by omega)
 have hf1:AA ((st.c,Al.cells 9 1 [.str [97],.str [65],.str [],.str [122,95,57],.str (repeated [122] 41)] false)::st.h) st.c=some (.cells 9 1 [.str [97],.str [65],.str [],.str [122,95,57],.str (repeated [122] 41)] false):=by simp[AJ]
 have hsome:=QC (k:=k) K1.st hv (by omega) (Hr (cap:=some 5) hf1 (show st.c≠o by omega)) (by simp) (by simp)
 obtain⟨s,hsx,hs50⟩:∃s:BB,[AV.str [97],.str [65],.str [],.str [122,95,57],.str (repeated [122] 41)].getD (BK zs (a+1) [AV.str [97],.str [65],.str [],.str [122,95,57],.str (repeated [122] 41)].length).toNat .undef=.str s/\s.length<=50:=by
  have:=Hz (zs:=zs) (a:=a) (l:=[AV.str [97],.str [65],.str [],.str [122,95,57],.str (repeated [122] 41)]) (by simp)
  generalize List.getD _ _ _=x at this
  simp only[List.mem_cons,List.not_mem_nil,or_false] at this
  rcases this with rfl|rfl|rfl|rfl|rfl <;> exact⟨_,rfl,by decide⟩
 rw[hsx] at hsome
 have K2:=K1.tick (a+1)
 generalize hS2:tick ⟨(st.c,Al.cells 9 1 [.str [97],.str [65],.str [],.str [122,95,57],.str (repeated [122] 41)] false)::st.h,st.c+3,st.lo⟩ o vs (a+1)=S2 at K2 hsome
 have hS2c:S2.c=st.c+3:=by rw[← hS2]; rfl
 have hfr:∀p,p<st.c->p≠o->AA S2.h p=AA st.h p:=fun p h1 h2=>by
  rw[← hS2,Cj K1.GI h2]; simp[AJ,show ¬st.c=p by omega]
 have hb2:∀p x,(p,x)∈S2.h->p<st.c+1:=fun p x hm=>by
  rw[← hS2] at hm
  rcases Fu hm with h|h
  ·omega
  ·rcases List.mem_cons.1 h with h|h
   ·cases h; omega
   ·have:=H.k.hb p x h; omega
 have hg2:AA S2.h (c+1)=some (.cells 29 3 [kv,.str g.start,.AU BC 0 ls.length none] false):=by rw[hfr _ (by omega) (by omega)]; exact H.MV
 have K3:=K2.cons (p:=st.c+1) (x:=.cells 9 1 [.str s] false) (n:=S2.c) (by omega) (by omega) (Nat.le_refl _)
 have hmk:LH ((st.c+1,Al.cells 9 1 [.str s] false)::S2.h) 9 1 kv (strs g.kinds):=H.m.kinds.heap fun p hp=>by
  have:=H.NY hp
  rw[AJ,if_neg (by omega)]; exact hfr p (by omega) (by omega)
 obtain⟨S4,happ,hS4c,K4,hf4,hfr4⟩:=JW (bytes:=16) (id:=st.c+2) (e:=st.c+1) (x:=.str s) K3 hmk (fun p hp=>by have:=H.NY hp; omega) (by omega) (by omega) (by simpa using (by omega:g.kinds.length<=1000)) (by simp[AJ,AV.cells]) rfl
  (fun p y hm=>by
   rcases List.mem_cons.1 hm with h|h
   ·cases h; omega
   ·have:=hb2 p y h; omega) (by show st.c+2<S2.c; omega) (by omega)
 have hg4:AA S4.h (c+1)=some (.cells 29 3 [kv,.str g.start,.AU BC 0 ls.length none] false):=by
  rw[hfr4 _ (by omega) (fun e=>by have:=H.NY e; omega),AJ,if_neg (by omega)]; exact hg2
 have hsto:=Cr (st:=S4) (off:=0) (v:=.AU (st.c+2) 0 (g.kinds.length+1) none) hg4 (by rw[K4.lo]; have:=H.k.MP; omega) (by simp) rfl rfl
 simp only[List.set_cons_zero] at hsto
 have hb':∀p x,(p,x)∈st.h->p<st.c:=H.k.hb
 have hl1:AP st.h (.AO (c+1) 0)=some kv:=by rw[AL H.MV]; rfl
 have hl2:AP S2.h (.AO (c+1) 0)=some kv:=by rw[AL hg2]; rfl
 have e3:newObj (st.c+1) (.cells 9 1 [.str s] false) S2=some ⟨(st.c+1,.cells 9 1 [.str s] false)::S2.h,S2.c,S2.lo⟩:=Ao (h:=S2.h) (c:=S2.c) (lo:=S2.lo) hb2
 simp at hsome happ
 simp[C.f19L15,h0,h3,Gz,IY,Dw,Da,Fj,hl1,hl2,AV.Fe,Ar,blt_eq,beq_eq,ble_eq,BA,BS,AV.isTuple,AV.cells,Wd,Ao hb',hsome,e3,happ,hsto,Fg]
 have hfin:∀p,p<st.c->p≠o->p≠c+1->BR kv≠some p->AA (Aa S4.h (c+1) (.cells 29 3 [.AU (st.c+2) 0 (g.kinds.length+1) none,.str g.start,.AU BC 0 ls.length none] false)) p=AA st.h p:=fun p h1 h2 h3 h4=>by
  rw[AY hg4,if_neg (Ne.symm h3),hfr4 p (by omega) h4,AJ,if_neg (by omega)]; exact hfr p h1 h2
 refine⟨{ g with kinds:=g.kinds++[s] },1,by omega,by omega,K4.Aa (by omega) hg4,by show c+2<=S4.c; rw[hS4c]; show c+2<=S2.c; omega,?_,⟨by simp; omega,fun x hx=>?_,hs.start,hs.many,hs.rules⟩,.AU (st.c+2) 0 (g.kinds.length+1) none,_,ls,by show AA (Aa _ _ _) (c+1)=_; rw[AY hg4,if_pos rfl],?_,H.NL fun p h1 h2=>?_,.inr ⟨BC,none,47,true,[],rfl,by omega,?_⟩⟩
 ·show AA (Aa _ _ _) c=_
  rw[hfin c (by omega) (by omega) (by omega) (fun e=>by have:=H.NY e; omega)]; exact H.Xu
 ·rcases List.mem_append.1 hx with h|h
  ·exact hs.names x h
  ·simp at h; subst h; exact hs50
 ·rw[OH] at hf4
  have hm:=LH.TC (l:=g.kinds++[s]) (by simp) hf4
  rw[show (g.kinds++[s]).length=g.kinds.length+1 by simp] at hm
  exact RG.of (hm.heap fun p hp=>by cases hp; show AA (Aa _ _ _) _=_; rw[AY hg4,if_neg (by omega)]) fun p hp=>by cases hp; omega
 ·exact hfin p (by omega) (by omega) (by omega) (fun e=>by have:=H.NY e; omega)
 ·show AA (Aa _ _ _) BC=_
  rw[hfin BC (by omega) (by omega) (by omega) (fun e=>by have:=H.NY e; omega),List.append_nil]; exact H.m.rules
theorem lZ (hv:CB vs zs)(ha:0<=a/\a<100000)(H:GS c o vs a st0 st g kv BC ls)(hs:g.Small)(hs29:∀r∈g.rules,r.right.length<=29)(h0:ts.get 0=.AO o 0)(h3:ts.get 3=.AO (c+1) 0){i:Nat}(hi:i<ls.length)(h4:ts.get 4=.int .i64 (i:Int)) :
 (BF E (AX E (k+3)) C.f19L9 ts st).to (Fg c o vs a st0 ts):=by
 obtain⟨hr,w,hli,hw⟩:=H.Yr hi
 have hrid:=H.m.LC
 have hoc:=H.k.oc
 have hcc:=H.cc
 have hro:∀p,BR w=some p->BC<p/\p<st.c:=fun p hp=>(H.m.each i hi hr).2 p (by rw[hli]; exact hp)
 have hr29:=hs29 _ (List.getElem_mem hr)
 have K1:=H.k.cons (p:=st.c) (x:=.cells 9 1 [.str [119],.str [],.str [115],.str [97],.str [112,108,117,115]] false) (n:=st.c+3) (by omega) (by omega) (by omega)
 have hf1:AA ((st.c,Al.cells 9 1 [.str [119],.str [],.str [115],.str [97],.str [112,108,117,115]] false)::st.h) st.c=some (.cells 9 1 [.str [119],.str [],.str [115],.str [97],.str [112,108,117,115]] false):=by simp[AJ]
 have hsome:=QC (k:=k) K1.st hv (by omega) (Hr (cap:=some 5) hf1 (show st.c≠o by omega)) (by simp) (by simp)
 obtain⟨s,hsx,hs50⟩:∃s:BB,[AV.str [119],.str [],.str [115],.str [97],.str [112,108,117,115]].getD (BK zs (a+1) [AV.str [119],.str [],.str [115],.str [97],.str [112,108,117,115]].length).toNat .undef=.str s/\s.length<=50:=by
  have:=Hz (zs:=zs) (a:=a) (l:=[AV.str [119],.str [],.str [115],.str [97],.str [112,108,117,115]]) (by simp)
  generalize List.getD _ _ _=x at this
  simp only[List.mem_cons,List.not_mem_nil,or_false] at this
  rcases this with rfl|rfl|rfl|rfl|rfl <;> exact⟨_,rfl,by decide⟩
 rw[hsx] at hsome
 have K2:=K1.tick (a+1)
 generalize hS2:tick ⟨(st.c,Al.cells 9 1 [.str [119],.str [],.str [115],.str [97],.str [112,108,117,115]] false)::st.h,st.c+3,st.lo⟩ o vs (a+1)=S2 at K2 hsome
 have hS2c:S2.c=st.c+3:=by rw[← hS2]; rfl
 have hfr:∀p,p<st.c->p≠o->AA S2.h p=AA st.h p:=fun p h1 h2=>by
  rw[← hS2,Cj K1.GI h2]; simp[AJ,show ¬st.c=p by omega]
 have hb2:∀p x,(p,x)∈S2.h->p<st.c+1:=fun p x hm=>by
  rw[← hS2] at hm
  rcases Fu hm with h|h
  ·omega
  ·rcases List.mem_cons.1 h with h|h
   ·cases h; omega
   ·have:=H.k.hb p x h; omega
 have hr2:AA S2.h BC=some (.cells 47 3 (ls.flatMap AV.cells) true):=by rw[hfr BC (by omega) (by omega)]; exact H.m.rules
 have hg2:AA S2.h (c+1)=some (.cells 29 3 [kv,.str g.start,.AU BC 0 ls.length none] false):=by rw[hfr _ (by omega) (by omega)]; exact H.MV
 have K3:=K2.cons (p:=st.c+1) (x:=.cells 9 1 [.str s] false) (n:=S2.c) (by omega) (by omega) (Nat.le_refl _)
 have hmk:LH ((st.c+1,Al.cells 9 1 [.str s] false)::S2.h) 9 1 w (strs g.rules[i].right):=hw.heap fun p hp=>by
  have:=hro p hp
  rw[AJ,if_neg (by omega)]; exact hfr p (by omega) (by omega)
 obtain⟨S4,happ,hS4c,K4,hf4,hfr4⟩:=JW (bytes:=16) (id:=st.c+2) (e:=st.c+1) (x:=.str s) K3 hmk (fun p hp=>by have:=hro p hp; omega) (by omega) (by omega) (by simpa using (by omega:g.rules[i].right.length<=1000)) (by simp[AJ,AV.cells]) rfl
  (fun p y hm=>by
   rcases List.mem_cons.1 hm with h|h
   ·cases h; omega
   ·have:=hb2 p y h; omega) (by show st.c+2<S2.c; omega) (by omega)
 have hr4:AA S4.h BC=some (.cells 47 3 (ls.flatMap AV.cells) true):=by
  rw[hfr4 _ (by omega) (fun e=>by have:=hro _ e; omega),AJ,if_neg (by omega)]; exact hr2
 have hg4:AA S4.h (c+1)=some (.cells 29 3 [kv,.str g.start,.AU BC 0 ls.length none] false):=by
  rw[hfr4 _ (by omega) (fun e=>by have:=hro _ e; omega),AJ,if_neg (by omega)]; exact hg2
 have hlen3:(ls.flatMap AV.cells).length=ls.length*3:=Av H.m.three
 have hget:=Fv H.m.three (show ls[i]? =some (.agg [.str g.rules[i].left,w,.int .i64 g.rules[i].level]) by rw[List.getElem?_eq_getElem hi,hli])
 have hsto:=Cr (st:=S4) (off:=3*i+1) (v:=.AU (st.c+2) 0 (g.rules[i].right.length+1) none) hr4 (by rw[K4.lo]; have:=H.k.MP; omega) (by rw[hlen3]; omega) rfl rfl
 rw[Ip H.m.three (show ls[i]? =some (.agg [.str g.rules[i].left,w,.int .i64 g.rules[i].level]) by rw[List.getElem?_eq_getElem hi,hli])] at hsto
 have hb':∀p x,(p,x)∈st.h->p<st.c:=H.k.hb
 have hl1:AP st.h (.AO (c+1) 2)=some (.AU BC 0 ls.length none):=by rw[AL H.MV]; rfl
 have hl2:AP S2.h (.AO (c+1) 2)=some (.AU BC 0 ls.length none):=by rw[AL hg2]; rfl
 have hl4:AP S4.h (.AO (c+1) 2)=some (.AU BC 0 ls.length none):=by rw[AL hg4]; rfl
 have hl5:AP st.h (.AO BC (3*i+1))=some w:=by rw[AL H.m.rules]; exact hget.2.1
 have hl6:AP S2.h (.AO BC (3*i+1))=some w:=by rw[AL hr2]; exact hget.2.1
 have e3:newObj (st.c+1) (.cells 9 1 [.str s] false) S2=some ⟨(st.c+1,.cells 9 1 [.str s] false)::S2.h,S2.c,S2.lo⟩:=Ao (h:=S2.h) (c:=S2.c) (lo:=S2.lo) hb2
 have hix:∀n,Ad 3 (.AU BC 0 ls.length none) (.int .i64 (i:Int)) ⟨st.h,n,st.lo⟩=some (.AO BC (3*i),⟨st.h,n,st.lo⟩):=fun n=>PW (st:=⟨st.h,n,st.lo⟩) H.m.rules hi
 simp at hsome happ
 simp[C.f19L9,h0,h3,h4,Gz,IY,Dw,Da,Fj,LP,hl1,hl2,hl4,hl5,hl6,hix,PW hr2 hi,AV.Fe,Ar,blt_eq,beq_eq,ble_eq,BA,BS,AV.isTuple,AV.cells,Ao hb',hsome,e3,happ,PW hr4 hi,hsto,Fg]
 have hfin:∀p,p<st.c->p≠o->p≠BC->BR w≠some p->∀y,AA (Aa S4.h BC y) p=AA st.h p:=fun p h1 h2 h3 h4 y=>by
  rw[AY hr4,if_neg (Ne.symm h3),hfr4 p (by omega) h4,AJ,if_neg (by omega)]; exact hfr p h1 h2
 refine⟨_,1,by omega,by omega,H.Pf hs (a':=a+1) hi (r':=⟨g.rules[i].left,g.rules[i].right++[s],g.rules[i].level⟩) (v':=.agg [.str g.rules[i].left,.AU (st.c+2) 0 (g.rules[i].right.length+1) none,.int .i64 g.rules[i].level]) (K4.Aa (by omega) hr4) (by show c+2<=S4.c; rw[hS4c]; show c+2<=S2.c; omega) ?_ ?_ ?_ (fun p hp=>?_) (fun p h1 h2 h5=>?_) ?_ ?_⟩
 ·show AA (Aa _ _ _) (c+1)=_
  rw[AY hr4,if_neg (by omega)]; exact hg4
 ·exact hfin c (by omega) (by omega) (by omega) (fun e=>by have:=hro _ e; omega) _
 ·show AA (Aa _ _ _) BC=_
  rw[AY hr4,if_pos rfl]
 ·have:=H.NY hp
  exact hfin p (by omega) (by omega) (by omega) (fun e=>by have:=hro _ e; omega) _
 ·exact hfin p (by omega) (by omega) (by omega) (fun e=>h5 (by rw[hli]; exact e)) _
 ·rw[OH] at hf4
  have hm:=LH.TC (l:=g.rules[i].right++[s]) (by simp) hf4
  rw[show (g.rules[i].right++[s]).length=g.rules[i].right.length+1 by simp] at hm
  exact⟨_,rfl,RG.of (hm.heap fun p hp=>by cases hp; show AA (Aa _ _ _) _=_; rw[AY hr4,if_neg (by omega)]) fun p hp=>by cases hp; omega⟩
 ·have:=hs.rules _ (List.getElem_mem hr)
  refine⟨this.left,by simp; omega,fun x hx=>?_,this.level⟩
  rcases List.mem_append.1 hx with h|h
  ·exact this.names x h
  ·simp at h; subst h; exact hs50
end
section
variable {c o:Nat}{vs:AV}{zs:List Int}{a:Int}{st0 st:St}{g:Ak}{kv:AV}{BC:Nat}{ls:List AV}{ts:TS}{k:Nat}
theorem lX (ha:0<=a/\a<100000)(H:GS c o vs a st0 st g kv BC ls)(hs:g.Small)(h11:g.rules.length<=11)(h3:ts.get 3=.AO (c+1) 0){i:Nat}(hi:i<ls.length)(h4:ts.get 4=.int .i64 (i:Int)) :
 (BF E (AX E (k+3)) C.f19L5 ts st).to (Fg c o vs a st0 ts):=by
 obtain⟨hr,w,hli,hw⟩:=H.Yr hi
 have hrid:=H.m.LC
 have hoc:=H.k.oc
 have hcc:=H.cc
 have hln:=H.m.ln
 have hne:ls≠[]:=fun e=>by rw[e] at hi; simp at hi
 have K1:=H.k.cons (p:=st.c) (x:=.cells 47 3 ls[i].cells false) (n:=st.c+2) (by omega) (by omega) (by omega)
 have hx3:ls[i].cells.length=3:=H.m.three _ (List.getElem_mem hi)
 have hm1:LH ((st.c,Al.cells 47 3 ls[i].cells false)::st.h) 47 3 (.AU BC 0 ls.length none) ls:=.ob BC ls hne H.m.three (by simp[AJ,show ¬st.c=BC by omega,H.m.rules])
 have hb':∀p x,(p,x)∈st.h->p<st.c:=H.k.hb
 obtain⟨S4,happ,hS4c,K4,hf4,hfr4⟩:=JW (bytes:=48) (id:=st.c+1) (e:=st.c) (x:=ls[i]) K1 hm1 (fun p hp=>by cases hp; omega) (by omega) (by omega) (by omega) (by simp[AJ]) hx3
  (fun p y hm=>by
   rcases List.mem_cons.1 hm with h|h
   ·cases h; omega
   ·have:=hb' p y h; omega) (by show st.c+1<st.c+2; omega) (by omega)
 have hg4:AA S4.h (c+1)=some (.cells 29 3 [kv,.str g.start,.AU BC 0 ls.length none] false):=by
  rw[hfr4 _ (by omega) (fun e=>by cases e; omega),AJ,if_neg (by omega)]; exact H.MV
 have hsto:=Cr (st:=S4) (off:=2) (v:=.AU (st.c+1) 0 (ls.length+1) none) hg4 (by rw[K4.lo]; have:=H.k.MP; omega) (by simp) rfl rfl
 simp only[List.set_cons_succ,List.set_cons_zero] at hsto
 have hl1:AP st.h (.AO (c+1) 2)=some (.AU BC 0 ls.length none):=by rw[AL H.MV]; rfl
 have hix:∀n,Ad 3 (.AU BC 0 ls.length none) (.int .i64 (i:Int)) ⟨st.h,n,st.lo⟩=some (.AO BC (3*i),⟨st.h,n,st.lo⟩):=fun n=>PW (st:=⟨st.h,n,st.lo⟩) H.m.rules hi
 have hget:=Fv H.m.three (show ls[i]? =some (.agg [.str g.rules[i].left,w,.int .i64 g.rules[i].level]) by rw[List.getElem?_eq_getElem hi,hli])
 have hlen3:(ls.flatMap AV.cells).length=ls.length*3:=Av H.m.three
 have hrd:Ac st.h (.AO BC (3*i)) 3=some [.str g.rules[i].left,w,.int .i64 g.rules[i].level]:=by
  have hle:Nat.ble (3*i+3) (ls.flatMap AV.cells).length=true:=Nat.ble_eq_true_of_le (by omega)
  simp only[Ac,H.m.rules,hle,cond_true,Option.some.injEq]
  apply List.ext_getElem?
  intro j
  match j with
  |0=>simpa using hget.1
  |1=>simpa using hget.2.1
  |2=>simpa using hget.2.2
  |j+3=>simp; omega
 have hmw:=hw.one
 rw[hli] at happ hf4
 simp[AV.cells] at happ
 have hr':(C.f19L5=C.f19L5):=rfl
 have hxc:BA [.str [],.AB,.int .i64 0] [(0,3)] [.agg [.str g.rules[i].left,w,.int .i64 g.rules[i].level]]=some [.str g.rules[i].left,w,.int .i64 g.rules[i].level]:=by
  simp[BA,AV.isTuple,AV.cells,beq_eq,ble_eq,BS]
 simp[C.f19L5,h3,h4,hl1,hix,hrd,Ar,hxc,blt_eq,beq_eq,ble_eq,Ao hb',happ,hsto,Fg]
 have hfin:∀p,p<st.c->p≠c+1->p≠BC->∀y,AA (Aa S4.h (c+1) y) p=AA st.h p:=fun p h1 h2 h3 y=>by
  rw[AY hg4,if_neg (Ne.symm h2),hfr4 p (by omega) (fun e=>by cases e; omega),AJ,if_neg (by omega)]
 have hth:=H.NL (h':=Aa S4.h (c+1) (.cells 29 3 [kv,.str g.start,.AU (st.c+1) 0 (ls.length+1) none] false)) fun p h1 h2=>hfin p h2 (by omega) (by omega) _
 refine⟨{ g with rules:=g.rules++[g.rules[i]] },0,by omega,by omega,by rw[Int.add_zero]; exact K4.Aa (by omega) hg4,by show c+2<=S4.c; rw[hS4c]; show c+2<=st.c+2; omega,?_,⟨hs.kinds,hs.names,hs.start,by simp; omega,fun r hr=>?_⟩,kv,.AU (st.c+1) 0 (ls.length+1) none,ls++[ls[i]],?_,H.NW fun p hp=>?_,CP.Mh (by simp[hln]) fun j hl hr2=>?_,.inr ⟨st.c+1,none,47,true,[],by simp,by omega,?_⟩⟩
 ·show AA (Aa _ _ _) c=_
  rw[hfin c (by omega) (by omega) (by omega)]; exact H.Xu
 ·rcases List.mem_append.1 hr with h|h
  ·exact hs.rules r h
  ·simp at h; subst h; exact hs.rules _ (List.getElem_mem _)
 ·show AA (Aa _ _ _) (c+1)=_
  rw[AY hg4,if_pos rfl]
 ·have:=H.NY hp
  exact hfin p (by omega) (by omega) (by omega) _
 ·have get:∀(m:Nat) (hm:m<ls.length),Jw c (Aa S4.h (c+1) (.cells 29 3 [kv,.str g.start,.AU (st.c+1) 0 (ls.length+1) none] false)) ls[m] (g.rules[m]'(by omega)):=fun m hm=>
   H.WX hm (by omega) fun p hp=>by have:=(H.m.each m hm (by omega)).2 p hp; exact hfin p (by omega) (by omega) (by omega) _
  by_cases hj:j<ls.length
  ·simp only[List.getElem_append_left hj,List.getElem_append_left (show j<g.rules.length by omega)]
   exact get j hj
  ·have hj2:j=ls.length:=by simp at hl; omega
   subst hj2
   have e1:(ls++[ls[i]])[ls.length]'(by simp)=ls[i]:=by simp
   have e2:(g.rules++[g.rules[i]])[ls.length]'(by simp[hln])=g.rules[i]:=by simp[hln]
   rw[e1,e2]
   exact get i hi
 ·show AA (Aa _ _ _) (st.c+1)=_
  rw[AY hg4,if_neg (by omega),hf4,List.append_nil,hli]
end
def Dl:List AV:=[.str [],.AB,.int .i64 0]
theorem VP {ls:List AV}(h3:∀x∈ls,x.cells.length=3){i:Nat}(hi:i<ls.length) :
 (ls.flatMap AV.cells).take (3*i)=(ls.take i).flatMap AV.cells/\(ls.flatMap AV.cells).drop (3*i)=(ls.drop i).flatMap AV.cells:=by
 have ht:∀{l:List AV},(∀x∈l,x.cells.length=3)->∀i,(l.flatMap AV.cells).take (3*i)=(l.take i).flatMap AV.cells/\(l.flatMap AV.cells).drop (3*i)=(l.drop i).flatMap AV.cells:=by
  intro l
  induction l with
  |nil=>intro _ i; simp
  |cons x l ih=>
   intro h i
   cases i with
   |zero=>simp
   |succ i=>
    have hx:=h x (by simp)
    obtain⟨a,b⟩:=ih (fun y hy=>h y (by simp[hy])) i
    rw[List.flatMap_cons,List.take_append,List.drop_append,hx,show 3*(i+1)-3=3*i by omega,a,b,List.take_of_length_le (by omega),List.drop_eq_nil_of_le (by omega)]
    simp
 exact ht h3 i
theorem ZV {h:Heap}{o:Nat}{x:Al}(hf:AA h o=some x):Aa h o x=h:=by
 induction h with
 |nil=>rfl
 |cons q h ih=>
  obtain⟨i,z⟩:=q
  rw[AJ] at hf
  simp only[Aa,beq_eq,cond_eq_ite,decide_eq_true_eq]
  by_cases e:i=o
  ·rw[if_pos e] at hf ⊢; cases hf; rfl
  ·rw[if_neg e] at hf ⊢; rw[ih hf]
theorem QE (i:Nat):asNat (.int .i64 ((i:Int)+1))=some (i+1):=rfl
theorem XR {k:Nat}{st:St}{BC i:Nat}{ls:List AV}(hf:AA st.h BC=some (.cells 47 3 (ls.flatMap AV.cells) true))(h3:∀x∈ls,x.cells.length=3)(hlo:st.lo<=BC)(hi:i<ls.length)(hn:ls.length<=100) :
 AX E (k+1) 53 [.AU BC 0 ls.length none,.int .i64 (i:Int),.int .i64 ((i:Int)+1)] st=.ret (.AU BC 0 (ls.length-1) none,{ st with h:=Aa st.h BC (.cells 47 3 ((ls.eraseIdx i).flatMap AV.cells++Dl) true),c:=st.c+1 }):=by
 rw[Ai (fn:=C.f53) rfl rfl rfl,Af (by simp)]
 have hlen3:(ls.flatMap AV.cells).length=ls.length*3:=Av h3
 have hne:((i:Int)==(i:Int)+1)=false:=by simp; omega
 have hcast:((i:Int)+1)=((i+1:Nat):Int):=by simp
 have hsl:∀c',Bz 3 true true true [.AU BC 0 ls.length none,.int .i64 (i:Int),.int .i64 ((i:Int)+1),.int .i64 (ls.length:Int)] ⟨st.h,c',st.lo⟩=some (.AU BC (i*3) 1 (some (ls.length-i)),⟨st.h,c',st.lo⟩):=fun c'=>by
  have h1:i+1<=ls.length:=by omega
  have h2:i<=i+1:=by omega
  have h4:i+1-i=1:=by omega
  simp[Bz,DC,Bd,QE,h1,h2,h4,CE,hf,Gp,beq_eq,blt_eq,ble_eq,hlen3]
 have hs1:∀c',Bz 3 false true false [.AU BC 0 ls.length none,.int .i64 (i:Int)] ⟨st.h,c',st.lo⟩=some (.AU BC 0 i none,⟨st.h,c',st.lo⟩):=fun c'=>by
  have h1:i<=ls.length:=by omega
  have h5:i*3<=ls.length*3:=by omega
  simp[Bz,DC,Bd,h1,h5,CE,hf,Gp,beq_eq,blt_eq,ble_eq,hlen3]
 have hs2:∀c',Bz 3 true false false [.AU BC 0 ls.length none,.int .i64 ((i:Int)+1)] ⟨st.h,c',st.lo⟩=some (.AU BC ((i+1)*3) (ls.length-(i+1)) none,⟨st.h,c',st.lo⟩):=fun c'=>by
  have h1:i+1<=ls.length:=by omega
  simp[Bz,DC,Bd,QE,h1,CE,hf,Gp,beq_eq,blt_eq,ble_eq,hlen3]
 obtain⟨e1,e2⟩:=VP h3 (i:=i) hi
 have e2':(ls.flatMap AV.cells).drop ((i+1)*3)=(ls.drop (i+1)).flatMap AV.cells:=by
  rw[show (i+1)*3=3*i+3 by omega,← List.drop_drop,e2]
  have:ls.drop i=ls[i]::ls.drop (i+1):=List.drop_eq_getElem_cons hi
  rw[this,List.flatMap_cons,List.drop_append,h3 _ (List.getElem_mem hi),List.drop_eq_nil_of_le (by rw[h3 _ (List.getElem_mem hi)]; omega)]
  simp
 have hta:(ls.flatMap AV.cells).take (i*3)=(ls.take i).flatMap AV.cells:=by rw[Nat.mul_comm]; exact e1
 have her:ls.eraseIdx i=ls.take i++ls.drop (i+1):=List.eraseIdx_eq_take_drop_succ ls i
 have hel:(ls.eraseIdx i).length=ls.length-1:=List.length_eraseIdx_of_lt hi
 have hec:((ls.eraseIdx i).flatMap AV.cells).length=(ls.length-1)*3:=by
  rw[Av (fun x hx=>h3 x (List.mem_of_mem_eraseIdx hx)),hel]
 have hdl:((ls.drop (i+1)).flatMap AV.cells).length=(ls.length-(i+1))*3:=by
  rw[Av (fun x hx=>h3 x (List.mem_of_mem_drop hx)),List.length_drop]
 obtain⟨tl,htl,hcs1⟩:∃tl:List AV,tl.length=3/\BS (ls.flatMap AV.cells) (i*3) ((ls.drop (i+1)).flatMap AV.cells)=(ls.eraseIdx i).flatMap AV.cells++tl:=by
  refine⟨(ls.flatMap AV.cells).drop (i*3+((ls.drop (i+1)).flatMap AV.cells).length),?_,?_⟩
  ·rw[List.length_drop,hlen3,hdl]; omega
  ·rw[BS,hta,her,List.flatMap_append,List.append_assoc]
 have happ:∀c',Bq st.c 47 3 48 (.AU BC 0 i none) (.AU BC ((i+1)*3) (ls.length-(i+1)) none) ⟨st.h,c',st.lo⟩=some (.AU BC 0 (ls.length-1) none,⟨Aa st.h BC (.cells 47 3 ((ls.eraseIdx i).flatMap AV.cells++tl) true),c',st.lo⟩):=fun c'=>by
  have hsc:Au st.h 3 (ls.length-(i+1)) (.AU BC ((i+1)*3) (ls.length-(i+1)) none)=some ((ls.drop (i+1)).flatMap AV.cells):=by
   have h1:(i+1)*3+(ls.length-(i+1))*3<=(ls.flatMap AV.cells).length:=by rw[hlen3]; omega
   simp only[Au,hf,ble_eq,h1,decide_true,Nat.le_refl,Bool.and_self,cond_true,e2']
   simp only[show Nat.beq 3 3=true from rfl,Bool.and_self,cond_true,Option.some.injEq]
   exact List.take_of_length_le (by rw[hdl]; exact Nat.le_refl _)
  simp only[Bq,lenOf,hsc,BV,show Nat.beq 3 0=false from rfl,cond_false]
  by_cases hm:ls.length-(i+1)=0
  ·have:ls.length-1=i:=by omega
   have hsp:BS (ls.flatMap AV.cells) (i*3) ((ls.drop (i+1)).flatMap AV.cells)=ls.flatMap AV.cells:=by
    have:ls.drop (i+1)=[]:=List.drop_eq_nil_of_le (by omega)
    rw[this]; simp[BS]
   rw[hm,this,← hcs1,hsp,ZV hf]
   rfl
  ·have hb0:Nat.beq (ls.length-(i+1)) 0=false:=by rw[beq_eq]; simpa using hm
   have hb1:Nat.ble (0+i*3) (ls.flatMap AV.cells).length=true:=Nat.ble_eq_true_of_le (by omega)
   have hb2:Nat.ble (0+(i+(ls.length-(i+1)))*3) (ls.flatMap AV.cells).length=true:=Nat.ble_eq_true_of_le (by omega)
   have hb3:Nat.blt BC st.lo=false:=by rw[blt_eq]; simp; omega
   have hb4:Nat.ble (0+i*3+((ls.drop (i+1)).flatMap AV.cells).length) (ls.flatMap AV.cells).length=true:=Nat.ble_eq_true_of_le (by rw[hdl]; omega)
   simp only[hb0,cond_false,Dr,hf,show Nat.beq 47 47=true from rfl,show Nat.beq 3 3=true from rfl,hb1,hb2,Bool.and_self,cond_true,BI,hb3,hb4]
   rw[Nat.zero_add,hcs1,show i+(ls.length-(i+1))=ls.length-1 by omega]
 have hf2:AA (Aa st.h BC (.cells 47 3 ((ls.eraseIdx i).flatMap AV.cells++tl) true)) BC=some (.cells 47 3 ((ls.eraseIdx i).flatMap AV.cells++tl) true):=by rw[AY hf,if_pos rfl]
 have hlen2:((ls.eraseIdx i).flatMap AV.cells++tl).length=ls.length*3:=by rw[List.length_append,hec,htl]; omega
 have hs3:∀c',Bz 3 true true false [.AU BC 0 (ls.length-1) none,.int .i64 ((ls.length-1:Nat):Int),.int .i64 (ls.length:Int)] ⟨Aa st.h BC (.cells 47 3 ((ls.eraseIdx i).flatMap AV.cells++tl) true),c',st.lo⟩=some (.AU BC ((ls.length-1)*3) 1 none,⟨Aa st.h BC (.cells 47 3 ((ls.eraseIdx i).flatMap AV.cells++tl) true),c',st.lo⟩):=fun c'=>by
  have h1:Nat.ble (ls.length-1) ls.length=true:=Nat.ble_eq_true_of_le (by omega)
  have h2:Nat.ble (ls.length*3) ((ls.eraseIdx i).flatMap AV.cells++tl).length=true:=Nat.ble_eq_true_of_le (by omega)
  have h4:ls.length-(ls.length-1)=1:=by omega
  simp only[Bz,DC,Bd,CE,hf2,Gp,show Nat.beq 3 3=true from rfl,show Nat.blt 0 3=true from rfl,Bool.and_self,cond_true,Option.getD_some,h1,h2,h4,ZZ,Nat.zero_add]
 have hcl:∀c',Ko [.str [],.AB,.int .i64 0] (.AU BC ((ls.length-1)*3) 1 none) ⟨Aa st.h BC (.cells 47 3 ((ls.eraseIdx i).flatMap AV.cells++tl) true),c',st.lo⟩=some (.tuple [],⟨Aa st.h BC (.cells 47 3 ((ls.eraseIdx i).flatMap AV.cells++Dl) true),c',st.lo⟩):=fun c'=>by
  have hb3:Nat.blt BC st.lo=false:=by rw[blt_eq]; simp; omega
  have hb4:Nat.ble ((ls.length-1)*3+Dl.length) ((ls.eraseIdx i).flatMap AV.cells++tl).length=true:=Nat.ble_eq_true_of_le (by rw[hlen2]; show (ls.length-1)*3+3<=_; omega)
  have hsp:BS ((ls.eraseIdx i).flatMap AV.cells++tl) ((ls.length-1)*3) Dl=(ls.eraseIdx i).flatMap AV.cells++Dl:=by
   unfold BS
   rw[List.take_append_of_le_length (by omega),List.take_of_length_le (by omega),List.drop_eq_nil_of_le (by rw[hlen2]; show _<=(ls.length-1)*3+3; omega),List.append_nil]
  simp only[Ko,show Nat.beq 1 0=false from rfl,cond_false,hf2]
  show (bif Nat.beq 3 3 then CO (.tuple []) (BI _ BC ((ls.length-1)*3) Dl) else none)=_
  simp only[show Nat.beq 3 3=true from rfl,cond_true,BI,hb3,cond_false,hf2,hb4,hsp,CO,OX]
 have hlS:∀n st',Be .slice (.AU BC 0 n none) st'=some (.int .i64 (n:Int),st'):=fun n st'=>rfl
 simp[C.f53,hlS,hsl,hne,hs1,hs2,happ,hs3,hcl,leave,results,AR]
section
variable {c o:Nat}{vs:AV}{zs:List Int}{a:Int}{st0 st:St}{g:Ak}{kv:AV}{BC:Nat}{ls:List AV}{ts:TS}{k:Nat}
theorem lV (ha:0<=a/\a<100000)(H:GS c o vs a st0 st g kv BC ls)(hs:g.Small)(h3:ts.get 3=.AO (c+1) 0){i:Nat}(hi:i<ls.length)(h4:ts.get 4=.int .i64 (i:Int)) :
 (BF E (AX E (k+3)) C.f19L1 ts st).to (Fg c o vs a st0 ts):=by
 have hrid:=H.m.LC
 have hoc:=H.k.oc
 have hcc:=H.cc
 have hln:=H.m.ln
 have hm12:=hs.many
 have GL:=XR (k:=k+2) (st:=st) (i:=i) H.m.rules H.m.three (by rw[H.k.lo]; have:=H.k.MP; omega) hi (by omega)
 have K1:=H.k.Aa (p:=BC) (x:=.cells 47 3 ((ls.eraseIdx i).flatMap AV.cells++Dl) true) (by omega) H.m.rules
 have K2:Br c o vs a st0 { st with h:=Aa st.h BC (.cells 47 3 ((ls.eraseIdx i).flatMap AV.cells++Dl) true),c:=st.c+1 }:=
  ⟨fun p x hx=>Nat.lt_succ_of_lt (K1.hb p x hx),K1.lo,K1.MP,K1.oc,K1.GI,K1.CF,K1.mem⟩
 have hg2:AA (Aa st.h BC (.cells 47 3 ((ls.eraseIdx i).flatMap AV.cells++Dl) true)) (c+1)=some (.cells 29 3 [kv,.str g.start,.AU BC 0 ls.length none] false):=by
  rw[AY H.m.rules,if_neg (by omega)]; exact H.MV
 have hsto:=Cr (st:={ st with h:=Aa st.h BC (.cells 47 3 ((ls.eraseIdx i).flatMap AV.cells++Dl) true),c:=st.c+1 }) (off:=2) (v:=.AU BC 0 (ls.length-1) none) hg2 (by show st.lo<=c+1; rw[H.k.lo]; have:=H.k.MP; omega) (by simp) rfl rfl
 simp only[List.set_cons_succ,List.set_cons_zero] at hsto
 have hl1:AP st.h (.AO (c+1) 2)=some (.AU BC 0 ls.length none):=by rw[AL H.MV]; rfl
 simp[C.f19L1,h3,h4,hl1,wi i,GL,hsto,Fg]
 have hfin:∀p,p≠c+1->p≠BC->AA (Aa (Aa st.h BC (.cells 47 3 ((ls.eraseIdx i).flatMap AV.cells++Dl) true)) (c+1) (.cells 29 3 [kv,.str g.start,.AU BC 0 (ls.length-1) none] false)) p=AA st.h p:=fun p h2 h3=>by
  rw[AY hg2,if_neg (Ne.symm h2),AY H.m.rules,if_neg (Ne.symm h3)]
 have hth:=H.NL (h':=Aa (Aa st.h BC (.cells 47 3 ((ls.eraseIdx i).flatMap AV.cells++Dl) true)) (c+1) (.cells 29 3 [kv,.str g.start,.AU BC 0 (ls.length-1) none] false)) fun p h1 h2=>hfin p (by omega) (by omega)
 have hel:(ls.eraseIdx i).length=ls.length-1:=List.length_eraseIdx_of_lt hi
 have herase:∀{l:List AV} {rs:List Bf} {h:Heap},CP c h l rs->∀i,CP c h (l.eraseIdx i) (rs.eraseIdx i):=by
  intro l rs h H
  induction H with
  |nil=>intro i; exact .nil
  |cons a t ih=>
   intro i
   cases i with
   |zero=>exact t
   |succ i=>exact .cons a (ih i)
 refine⟨{ g with rules:=g.rules.eraseIdx i },0,by omega,by omega,by rw[Int.add_zero]; exact K2.Aa (by omega) hg2,by show c+2<=st.c+1; omega,?_,⟨hs.kinds,hs.names,hs.start,by rw[List.length_eraseIdx]; split <;> omega,fun r hr=>hs.rules r (List.mem_of_mem_eraseIdx hr)⟩,kv,.AU BC 0 (ls.length-1) none,ls.eraseIdx i,?_,H.NW fun p hp=>?_,herase hth i,.inr ⟨BC,none,47,true,Dl,by rw[hel],by omega,?_⟩⟩
 ·show AA (Aa _ _ _) c=_
  rw[hfin c (by omega) (by omega)]; exact H.Xu
 ·show AA (Aa _ _ _) (c+1)=_
  rw[AY hg2,if_pos rfl]
 ·have:=H.NY hp
  exact hfin p (by omega) (by omega)
 ·show AA (Aa _ _ _) BC=_
  rw[AY hg2,if_neg (by omega),AY H.m.rules,if_pos rfl]
end
theorem mK {k:Nat}{st:St}:AX E (k+2) 96 [.int .u64 1,.int .u64 20] st=.ret (.tuple [.int .u64 0,.int .u64 20],st):=by kernel_rfl
theorem mJ {k:Nat}{st:St}:AX E (k+2) 96 [.int .u64 1,.int .u64 21] st=.ret (.tuple [.int .u64 0,.int .u64 21],st):=by kernel_rfl
def filled (s:BB)(m n:Nat):List AV:=List.replicate m (.str s)++List.replicate (n-m) (.str [])
theorem Re {s:BB}{m n:Nat}(h:m<=n):(filled s m n).length=n:=by simp[filled]; omega
theorem Ky (v:AV):∀n,FV [v] n=List.replicate n v
 |0=>rfl
 |n+1=>by rw[FV,Ky v n]; rfl
theorem UN {k:Nat}{st:St}{id n:Nat}{s:BB}(hlo:st.lo<=id)(hf:∃x,AA st.h id=some x)(hn:n<=100)(ts:TS)(h7:ts.get 7=.AU id 0 n (some n))(h8:ts.get 8=.int .i64 ((1:Nat):Int))(h1:1<=n) :
 (Dh (BF E (AX E k) C.f52L0) E.k ts { st with h:=Aa st.h id (.cells 9 1 (filled s 1 n) false) }).to fun r=>r.1=.exit 0/\r.2.1.get 7=.AU id 0 n (some n)/\r.2.2={ st with h:=Aa st.h id (.cells 9 1 (filled s n n) false) }:=by
 obtain⟨x0,hx0⟩:=hf
 refine DI (fun (m:Nat) ts st'=>1<=m/\m<=n/\ts.get 7=.AU id 0 n (some n)/\ts.get 8=.int .i64 (m:Int)/\st'={ st with h:=Aa st.h id (.cells 9 1 (filled s m n) false) })
  (fun m=>n-m) ?_ _ 1 _ _ ?_ ?_
 ·rintro m ts st' ⟨hm1,hm2,h7,h8,rfl⟩
  have hf:AA (Aa st.h id (.cells 9 1 (filled s m n) false)) id=some (.cells 9 1 (filled s m n) false):=by rw[AY hx0,if_pos rfl]
  have hlenF:=Re (s:=s) hm2
  by_cases Bc:m<n
  ·have e1:∀c',Bz 1 true false false [.AU id 0 n (some n),.int .i64 (m:Int)] ⟨Aa st.h id (.cells 9 1 (filled s m n) false),c',st.lo⟩=some (.AU id m (n-m) (some (n-m)),⟨Aa st.h id (.cells 9 1 (filled s m n) false),c',st.lo⟩):=fun c'=>by
    simp[Bz,DC,Bd,CE,hf,Gp,beq_eq,blt_eq,ble_eq,hm2]
   have e2:∀c',Bz 1 false true false [.AU id 0 n (some n),.int .i64 (m:Int)] ⟨Aa st.h id (.cells 9 1 (filled s m n) false),c',st.lo⟩=some (.AU id 0 m (some n),⟨Aa st.h id (.cells 9 1 (filled s m n) false),c',st.lo⟩):=fun c'=>by
    simp[Bz,DC,Bd,CE,hf,Gp,beq_eq,blt_eq,ble_eq,hm2]
   have hmin:Nat.min m (n-m)=if m<=n-m then m else n-m:=by simp[Nat.min_def]
   have e3:∀c',Kn 1 (.AU id m (n-m) (some (n-m))) (.AU id 0 m (some n)) ⟨Aa st.h id (.cells 9 1 (filled s m n) false),c',st.lo⟩=some (.int .i64 ((Nat.min m (n-m):Nat):Int),⟨Aa st.h id (.cells 9 1 (filled s (m+Nat.min m (n-m)) n) false),c',st.lo⟩):=fun c'=>by
    have hq:Nat.min m (n-m)<=m/\Nat.min m (n-m)<=n-m/\Nat.min m (n-m)≠0:=by rw[hmin]; split <;> omega
    obtain⟨q,hqe⟩:∃q,Nat.min m (n-m)=q:=⟨_,rfl⟩
    rw[hqe] at hq
    rw[hqe]
    have h1:Nat.ble q m=true:=Nat.ble_eq_true_of_le hq.1
    have h2:Nat.ble (0+q*1) (filled s m n).length=true:=Nat.ble_eq_true_of_le (by omega)
    have htk:((filled s m n).drop 0).take (q*1)=List.replicate q (.str s):=by
     rw[List.drop_zero,Nat.mul_one,filled,List.take_append_of_le_length (by simp; omega),List.take_replicate]; congr 1; omega
    have h3:Nat.beq q 0=false:=by rw[beq_eq]; simpa using hq.2.2
    have h4:Nat.blt id st.lo=false:=by rw[blt_eq]; simp; omega
    have h5:Nat.ble (m+(List.replicate q (AV.str s)).length) (filled s m n).length=true:=Nat.ble_eq_true_of_le (by simp; omega)
    have hsp:BS (filled s m n) m (List.replicate q (.str s))=filled s (m+q) n:=by
     unfold BS filled
     rw[List.take_append_of_le_length (by simp),List.take_of_length_le (by simp),List.drop_append,List.drop_eq_nil_of_le (by simp),List.nil_append,List.length_replicate,List.length_replicate,List.drop_replicate,← List.append_assoc,List.replicate_append_replicate]
     congr 2; omega
    simp only[Kn,lenOf,hqe]
    simp only[Au,hf,show Nat.beq 1 1=true from rfl,h1,h2,Bool.and_self,cond_true,htk,h3,cond_false,BI,h4,h5,hsp,CO,OX]
   have hq:Nat.min m (n-m)<=n-m/\1<=Nat.min m (n-m):=by rw[hmin]; split <;> omega
   simp[C.f52L0,h7,h8,Be,Bu,Bc,e1,e2,e3,wrap64 (n:=(m:Int)+(Nat.min m (n-m):Nat)) (by omega) (by omega)]
   exact⟨m+Nat.min m (n-m),by omega,by omega,by omega,by simp,rfl⟩
  ·have:m=n:=by omega
   subst this
   simp[C.f52L0,h7,h8,Be,Bu]
 ·show n-1<1000000; omega
 ·exact⟨Nat.le_refl _,h1,h7,h8,rfl⟩
theorem aY {k:Nat}{st:St}{e n:Nat}{s:BB}(hb:HB st)(hlo:st.lo<=st.c)(he:AA st.h e=some (.cells 9 1 [.str s] false))(hec:e<st.c)(hn:n=20∨n=21) :
 AX E (k+3) 52 [.AU e 0 1 (some 1),.int .i64 (n:Int)] st=.ret (.AU st.c 0 n (some n),⟨(st.c,.cells 9 1 (List.replicate n (.str s)) false)::st.h,st.c+1,st.lo⟩):=by
 rw[Ai (fn:=C.f52) rfl rfl rfl,Af (by simp)]
 have hb':∀p x,(p,x)∈st.h->p<st.c:=hb
 have hmul:∀st',AX E (k+2) 96 [.int .u64 1,.int .u64 (n:Int)] st'=.ret (.tuple [.int .u64 0,.int .u64 (n:Int)],st'):=fun st'=>by
  rcases hn with rfl|rfl
  ·exact mK
  ·exact mJ
 have hn100:n<=100:=by omega
 have hroom:n*16<=room/\n<=room:=by unfold room; constructor <;> omega
 have hu:IntKind.u64.wrap ((n:Nat):Int)=n:=by rcases hn with rfl|rfl <;> rfl
 have hi:IntKind.i64.wrap ((n:Nat):Int)=n:=wrap64 (by omega) (by omega)
 have h1u:IntKind.u64.wrap ((1:Nat):Int)=1:=rfl
 have h1u':IntKind.u64.wrap 1=1:=rfl
 have g1:bin .gtr (.int .u64 0) (.int .u64 0)=some (.bool false):=rfl
 have g2:bin .gtr (.int .u64 (n:Int)) (.int .u64 9223372036854775807)=some (.bool false):=by
  show some (AV.bool (decide ((9223372036854775807:Int)<n)))=_
  rw[decide_eq_false (by omega)]
 have hcp:∀c',Kn 1 (.AU st.c 0 n (some n)) (.AU e 0 1 (some 1)) ⟨(st.c,.cells 9 1 (List.replicate n (.str [])) false)::st.h,c',st.lo⟩=some (.int .i64 1,⟨Aa ((st.c,.cells 9 1 (List.replicate n (.str [])) false)::st.h) st.c (.cells 9 1 (filled s 1 n) false),c',st.lo⟩):=fun c'=>by
  have hm:Nat.min 1 n=1:=by simp[Nat.min_def]; omega
  have hf:AA ((st.c,Al.cells 9 1 (List.replicate n (.str [])) false)::st.h) e=some (.cells 9 1 [.str s] false):=by rw[AJ,if_neg (by omega)]; exact he
  have hf2:AA ((st.c,Al.cells 9 1 (List.replicate n (.str [])) false)::st.h) st.c=some (.cells 9 1 (List.replicate n (.str [])) false):=by rw[AJ,if_pos rfl]
  have h4:Nat.blt st.c st.lo=false:=by rw[blt_eq]; simp; omega
  have h5:Nat.ble (0+1) (List.replicate n (AV.str [])).length=true:=Nat.ble_eq_true_of_le (by simp; omega)
  have hsp:BS (List.replicate n (AV.str [])) 0 [.str s]=filled s 1 n:=by simp[BS,filled]
  simp only[Kn,lenOf,hm]
  simp only[Au,hf]
  have hc0:(Nat.beq 1 1&&Nat.ble 1 1&&Nat.ble (0+1*1) [AV.str s].length)=true:=rfl
  have ht0:([AV.str s].drop 0).take (1*1)=[.str s]:=rfl
  rw[hc0]
  simp only[cond_true,ht0]
  simp only[show Nat.beq 1 0=false from rfl,cond_false,hf2,show Nat.beq 1 1=true from rfl,cond_true,BI,h4,List.length_singleton,h5,hsp,CO]
  rfl
 have hloop:=fun ts a b=>UN (k:=k+2) (st:=⟨(st.c,.cells 9 1 (List.replicate n (.str [])) false)::st.h,st.c+1,st.lo⟩) (id:=st.c) (n:=n) (s:=s) hlo ⟨_,by rw[AJ,if_pos rfl]⟩ hn100 ts a b (by omega)
 have hms:KZ st.c 9 1 16 [.str []] (.int .i64 (n:Int)) (.int .i64 (n:Int))=some (.AU st.c 0 n (some n),.cells 9 1 (List.replicate n (.str [])) false):=by
  simp[KZ,Bd,ble_eq,blt_eq,beq_eq,hroom.1,hroom.2,Ky]
 have hneg:¬((n:Int)<0):=by omega
 apply M.to_eq
 simp[C.f52,hneg,Be,Bu,h1u',hu,hi,hmul,g1,g2,JX,hms,Ao hb',hcp]
 refine M.BX (hloop _ (by simp) (by simp)) fun r hr=>?_
 obtain⟨x,ts,st'⟩:=r
 obtain⟨rfl,h7,rfl⟩:=hr
 have hff:filled s n n=List.replicate n (.str s):=by simp[filled]
 simp[h7,leave,results,AR,Aa,beq_eq,hff]
theorem RG.mI {c id:Nat}{h:Heap}{l:List BB}{cap:Option Nat}{ext:Bool}{ty:Nat}(hf:AA h id=some (.cells ty 1 (strs l) ext))(hc:c<id):RG c h (.AU id 0 l.length cap) l:=
 Or.inr ⟨id,cap,ty,ext,rfl,hc,hf⟩
section
variable {c o:Nat}{vs:AV}{zs:List Int}{a:Int}{st0 st:St}{g:Ak}{kv:AV}{BC:Nat}{ls:List AV}{ts:TS}{k:Nat}
theorem lW (hv:CB vs zs)(ha:0<=a/\a<100000)(H:GS c o vs a st0 st g kv BC ls)(hs:g.Small)(h0:ts.get 0=.AO o 0)(h3:ts.get 3=.AO (c+1) 0){i:Nat}(hi:i<ls.length)(h4:ts.get 4=.int .i64 (i:Int)) :
 (BF E (AX E (k+3)) C.f19L2 ts st).to (Fg c o vs a st0 ts):=by
 obtain⟨hr,w,hli,hw⟩:=H.Yr hi
 have hrid:=H.m.LC
 have hoc:=H.k.oc
 have hcc:=H.cc
 have hb':∀p x,(p,x)∈st.h->p<st.c:=H.k.hb
 have K0:=H.k.cons (p:=st.c) (x:=.cells 9 1 [.str g.rules[i].left] false) (n:=st.c+1) (by omega) (by omega) (by omega)
 have K1:=K0.cons (p:=st.c+1) (x:=.cells 3 1 [.int .i64 20,.int .i64 21] false) (n:=st.c+2) (by omega) (by omega) (by show st.c+1<=st.c+2; omega)
 have hb0:∀p x,(p,x)∈(st.c,Al.cells 9 1 [.str g.rules[i].left] false)::st.h->p<st.c+1:=K0.hb
 have hf1:AA ((st.c+1,Al.cells 3 1 [.int .i64 20,.int .i64 21] false)::(st.c,Al.cells 9 1 [.str g.rules[i].left] false)::st.h) (st.c+1)=some (.cells 3 1 [.int .i64 20,.int .i64 21] false):=by simp[AJ]
 have hsome:=aa (k:=k) K1.st hv (by omega) (Hr (cap:=some 2) hf1 (show st.c+1≠o by omega)) (by simp) (by simp)
 obtain⟨n,hnx,hn⟩:∃n:Nat,[AV.int .i64 20,.int .i64 21].getD (BK zs (a+1) [AV.int .i64 20,.int .i64 21].length).toNat .undef=.int .i64 (n:Int)/\(n=20∨n=21):=by
  have:=Hz (zs:=zs) (a:=a) (l:=[AV.int .i64 20,.int .i64 21]) (by simp)
  generalize List.getD _ _ _=x at this
  simp only[List.mem_cons,List.not_mem_nil,or_false] at this
  rcases this with rfl|rfl
  ·exact⟨20,rfl,.inl rfl⟩
  ·exact⟨21,rfl,.inr rfl⟩
 rw[hnx] at hsome
 have K2:=K1.tick (a+1)
 generalize hS2:tick ⟨(st.c+1,Al.cells 3 1 [.int .i64 20,.int .i64 21] false)::(st.c,Al.cells 9 1 [.str g.rules[i].left] false)::st.h,st.c+2,st.lo⟩ o vs (a+1)=S2 at K2 hsome
 have hS2c:S2.c=st.c+2:=by rw[← hS2]; rfl
 have hfr:∀p,p<st.c->p≠o->AA S2.h p=AA st.h p:=fun p h1 h2=>by
  rw[← hS2,Cj K1.GI h2]; simp[AJ,show ¬st.c=p by omega,show ¬st.c+1=p by omega]
 have he2:AA S2.h st.c=some (.cells 9 1 [.str g.rules[i].left] false):=by
  rw[← hS2,Cj K1.GI (by omega)]; simp[AJ]
 have hrep:=aY (k:=k) (st:=S2) K2.hb (by rw[K2.lo]; have:=H.k.MP; omega) he2 (by omega) hn
 have K3:=K2.cons (p:=S2.c) (x:=.cells 9 1 (List.replicate n (.str g.rules[i].left)) false) (n:=S2.c+1) (by omega) (by omega) (by omega)
 have hfr3:∀p,p<st.c->p≠o->AA ((S2.c,Al.cells 9 1 (List.replicate n (.str g.rules[i].left)) false)::S2.h) p=AA st.h p:=fun p h1 h2=>by
  rw[AJ,if_neg (by omega)]; exact hfr p h1 h2
 have hr3:AA ((S2.c,Al.cells 9 1 (List.replicate n (.str g.rules[i].left)) false)::S2.h) BC=some (.cells 47 3 (ls.flatMap AV.cells) true):=by rw[hfr3 BC (by omega) (by omega)]; exact H.m.rules
 have hr2:AA S2.h BC=some (.cells 47 3 (ls.flatMap AV.cells) true):=by rw[hfr BC (by omega) (by omega)]; exact H.m.rules
 have hg2:AA S2.h (c+1)=some (.cells 29 3 [kv,.str g.start,.AU BC 0 ls.length none] false):=by rw[hfr _ (by omega) (by omega)]; exact H.MV
 have hg3:AA ((S2.c,Al.cells 9 1 (List.replicate n (.str g.rules[i].left)) false)::S2.h) (c+1)=some (.cells 29 3 [kv,.str g.start,.AU BC 0 ls.length none] false):=by rw[hfr3 _ (by omega) (by omega)]; exact H.MV
 have hlen3:(ls.flatMap AV.cells).length=ls.length*3:=Av H.m.three
 have hget:=Fv H.m.three (show ls[i]? =some (.agg [.str g.rules[i].left,w,.int .i64 g.rules[i].level]) by rw[List.getElem?_eq_getElem hi,hli])
 have hsto:=Cr (st:=⟨(S2.c,.cells 9 1 (List.replicate n (.str g.rules[i].left)) false)::S2.h,S2.c+1,S2.lo⟩) (off:=3*i+1) (v:=.AU S2.c 0 n (some n)) hr3 (by show S2.lo<=BC; rw[K2.lo]; have:=H.k.MP; omega) (by rw[hlen3]; omega) rfl rfl
 rw[Ip H.m.three (show ls[i]? =some (.agg [.str g.rules[i].left,w,.int .i64 g.rules[i].level]) by rw[List.getElem?_eq_getElem hi,hli])] at hsto
 have hl1:AP st.h (.AO (c+1) 2)=some (.AU BC 0 ls.length none):=by rw[AL H.MV]; rfl
 have hl2:AP S2.h (.AO (c+1) 2)=some (.AU BC 0 ls.length none):=by rw[AL hg2]; rfl
 have hl3:AP ((S2.c,Al.cells 9 1 (List.replicate n (.str g.rules[i].left)) false)::S2.h) (.AO (c+1) 2)=some (.AU BC 0 ls.length none):=by rw[AL hg3]; rfl
 have hl5:AP st.h (.AO BC (3*i))=some (.str g.rules[i].left):=by rw[AL H.m.rules]; exact hget.1
 have hl6:AP S2.h (.AO BC (3*i))=some (.str g.rules[i].left):=by rw[AL hr2]; exact hget.1
 have hix:∀n,Ad 3 (.AU BC 0 ls.length none) (.int .i64 (i:Int)) ⟨st.h,n,st.lo⟩=some (.AO BC (3*i),⟨st.h,n,st.lo⟩):=fun n=>PW (st:=⟨st.h,n,st.lo⟩) H.m.rules hi
 have hix3:∀m l,Ad 3 (.AU BC 0 ls.length none) (.int .i64 (i:Int)) ⟨(S2.c,.cells 9 1 (List.replicate n (.str g.rules[i].left)) false)::S2.h,m,l⟩=some (.AO BC (3*i),⟨(S2.c,.cells 9 1 (List.replicate n (.str g.rules[i].left)) false)::S2.h,m,l⟩):=fun m l=>PW (st:=⟨_,m,l⟩) hr3 hi
 simp at hsome
 simp[C.f19L2,h0,h3,h4,Gz,IY,Dw,Da,Fj,LP,hl1,hl2,hl3,hl5,hl6,hix,PW hr2 hi,AV.Fe,Ar,blt_eq,beq_eq,ble_eq,BA,BS,AV.isTuple,AV.cells,Ao hb',Ao hb0,hsome,hrep,hix3,hsto,Fg]
 have hfin:∀p,p<st.c->p≠o->p≠BC->∀y,AA (Aa ((S2.c,Al.cells 9 1 (List.replicate n (.str g.rules[i].left)) false)::S2.h) BC y) p=AA st.h p:=fun p h1 h2 h3 y=>by
  rw[AY hr3,if_neg (Ne.symm h3)]; exact hfr3 p h1 h2
 refine⟨_,1,by omega,by omega,H.Pf hs (a':=a+1) hi (r':=⟨g.rules[i].left,List.replicate n g.rules[i].left,g.rules[i].level⟩) (v':=.agg [.str g.rules[i].left,.AU S2.c 0 n (some n),.int .i64 g.rules[i].level]) (K3.Aa (by omega) hr3) (by show c+2<=S2.c+1; omega) ?_ ?_ ?_ (fun p hp=>?_) (fun p h1 h2 h5=>?_) ?_ ?_⟩
 ·show AA (Aa _ _ _) (c+1)=_
  rw[AY hr3,if_neg (by omega)]; exact hg3
 ·exact hfin c (by omega) (by omega) (by omega) _
 ·show AA (Aa _ _ _) BC=_
  rw[AY hr3,if_pos rfl]
 ·have:=H.NY hp
  exact hfin p (by omega) (by omega) (by omega) _
 ·exact hfin p (by omega) (by omega) (by omega) _
 ·refine⟨_,rfl,?_⟩
  have:=RG.mI (c:=c) (id:=S2.c) (l:=List.replicate n g.rules[i].left) (cap:=some n) (ty:=9) (ext:=false) (h:=Aa ((S2.c,Al.cells 9 1 (List.replicate n (.str g.rules[i].left)) false)::S2.h) BC (.cells 47 3 ((ls.set i (.agg [.str g.rules[i].left,.AU S2.c 0 n (some n),.int .i64 g.rules[i].level])).flatMap AV.cells) true)) (by
   rw[AY hr3,if_neg (by omega)]; simp[AJ,strs]) (by omega)
  simpa using this
 ·have:=hs.rules _ (List.getElem_mem hr)
  refine⟨this.left,by simp; omega,fun x hx=>?_,this.level⟩
  rw[List.eq_of_mem_replicate hx]; exact this.left
end
def HO (st:St):Prop:=∀p x,(p,x)∈st.h->Al.CF st.c x=true
theorem QS {st:St}{o:Nat}{y:Al}(hn:AA st.h o=none):∃h',newObj o y st=some { st with h:=h' }/\(∀p,AA h' p=if o=p then some y else AA st.h p)/\∀p x,(p,x)∈h'->(p=o/\x=y)∨(p,x)∈st.h:=by
 have key:∀h:Heap,AA h o=none->∃h',LZ h o y=some h'/\∀p x,(p,x)∈h'->(p=o/\x=y)∨(p,x)∈h:=by
  intro h
  induction h with
  |nil=>intro _; exact⟨[(o,y)],rfl,fun p x hm=>by simp at hm; exact .inl hm⟩
  |cons q h ih=>
   obtain⟨i,z⟩:=q
   intro hn
   rw[AJ] at hn
   simp only[LZ,blt_eq,beq_eq,cond_eq_ite,decide_eq_true_eq]
   by_cases h1:i<o
   ·rw[if_pos h1]
    exact⟨_,rfl,fun p x hm=>by
     rcases List.mem_cons.1 hm with h2|h2
     ·cases h2; exact .inl ⟨rfl,rfl⟩
     ·exact .inr h2⟩
   ·rw[if_neg h1]
    by_cases h2:i=o
    ·rw[if_pos h2] at hn; cases hn
    ·rw[if_neg h2] at hn ⊢
     obtain⟨h',e1,e2⟩:=ih hn
     rw[e1]
     exact⟨_,rfl,fun p x hm=>by
      rcases List.mem_cons.1 hm with h3|h3
      ·cases h3; exact .inr (by simp)
      ·rcases e2 p x h3 with h4|h4
       ·exact .inl h4
       ·exact .inr (by simp[h4])⟩
 obtain⟨h',e1,e2⟩:=key st.h hn
 exact⟨h',by unfold newObj; rw[e1],fun p=>GV e1 p,e2⟩
theorem Gg {c:Nat}{h:Heap}{p:Nat}{x:Al}(hm:(p,x)∈Gh c h):(p,x)∈h/\p<c:=by
 induction h with
 |nil=>simp[Gh] at hm
 |cons q h ih=>
  obtain⟨i,z⟩:=q
  simp only[Gh,ble_eq,cond_eq_ite,decide_eq_true_eq] at hm
  by_cases e:c<=i
  ·rw[if_pos e] at hm
   have:=ih hm
   exact⟨by simp[this.1],this.2⟩
  ·rw[if_neg e] at hm
   rcases List.mem_cons.1 hm with h1|h1
   ·cases h1; exact⟨by simp,by omega⟩
   ·have:=ih h1
    exact⟨List.mem_cons_of_mem _ this.1,this.2⟩
theorem holds_of {c:Nat}:∀{h:Heap},(∀p x,(p,x)∈h->p<c/\Al.CF c x=true)->holds c h=true
 |[],_=>rfl
 |(i,x)::h,H=>by
  have h1:=H i x (by simp)
  have h2:=holds_of (h:=h) fun p y hm=>H p y (List.mem_cons_of_mem _ hm)
  simp[holds,blt_eq,h1.1,h1.2,h2]
theorem bP {v:AV}{zs:List Int}(hv:CB v zs)(c:Nat):v.CF c=true:=by
 rcases hv.sl.out with⟨rfl,_⟩|⟨t,rfl⟩
 ·rfl
 ·show AV.Cx c _=true
  clear hv
  induction zs with
  |nil=>rfl
  |cons z zs ih=>simpa [AV.Cx,AV.CF] using ih
section
variable {c o:Nat}{vs:AV}{zs:List Int}{a:Int}{st0 st:St}{g:Ak}
theorem Br.jG (K:Br c o vs a st0 st)(hc:c=st0.c)(hv:CB vs zs)(ho:HO st0):∀p x,(p,x)∈st.h->p<c->Al.CF c x=true:=fun p x hm hp=>by
 rcases K.mem p x hm hp with h|⟨_,b,rfl⟩
 ·rw[hc]; exact ho p x h
 ·simp[Al.CF,AV.Cx,bP hv,AV.CF]
theorem Br.drop (K:Br c o vs a st0 st):Br c o vs a st0 { st with h:=Gh c st.h,c:=c } where
 hb:=fun p x hm=>(Gg hm).2
 lo:=K.lo
 MP:=K.MP
 oc:=K.oc
 GI:=by show AA (Gh c st.h) o=_; rw[Hw K.oc]; exact K.GI
 CF:=fun p hp hne=>by show AA (Gh c st.h) p=_; rw[Hw hp]; exact K.CF p hp hne
 mem:=fun p x hm hp=>K.mem p x (Gg hm).1 hp
theorem Br.ho (K:Br c o vs a st0 st)(hc:c=st0.c)(hs:st.c=c)(hv:CB vs zs)(ho:HO st0):HO st:=fun p x hm=>by
 rw[hs]; exact K.jG hc hv ho p x hm (by rw[← hs]; exact K.hb p x hm)
theorem UX (K:Br c o vs a st0 st)(hc:c=st0.c)(hv:CB vs zs)(ho:HO st0){kv rv:AV}{ls:List AV}(hk:RG c st.h kv g.kinds)(hr:CP c st.h ls g.rules)(hrv:(rv=.AB/\g.rules=[])∨∃p cap ty ext rest,rv=.AU p 0 ls.length cap/\c<p/\AA st.h p=some (.cells ty 3 (ls.flatMap AV.cells++rest) ext)) :
 ∃v,GK c (.agg [kv,.str g.start,rv],st)=.ret (v,{ st with h:=Gh c st.h,c:=c })/\Bl v g:=by
 obtain⟨v,h1,h2⟩:=ZY hk hr hrv CV (by decide)
 refine⟨v,?_,h2⟩
 have hh:holds c (Gh c st.h)=true:=holds_of fun p x hm=>⟨(Gg hm).2,K.jG hc hv ho p x (Gg hm).1 (Gg hm).2⟩
 unfold GK
 simp only[h1,hh,cond_true]
end
end Go.Am
section
namespace Go.Am
open Go
structure YR (g:Ak):Prop where
 small:g.Small
 kinds:g.kinds.length<=9
 many:g.rules.length<=11
 some:0<g.rules.length
 jB:∀r∈g.rules,r.right.length<=29
def Nz (k:Nat):Prop:=∀(st:St) (o:Nat) (vs:AV) (zs:List Int) (a:Int),Ib st o vs a->CB vs zs->0<=a->a<10000->o<st.c->st.lo<=o->HB st->HO st ->
 ∃v g m st',AX E k 4 [.AO o 0] st=.ret (v,st')/\st'.c=st.c/\Br st.c o vs (a+m) st st'/\Bl v g/\YR g/\0<=m/\m<=100
theorem Br.begin {st:St}{o:Nat}{vs:AV}{a:Int}(hs:Ib st o vs a)(ho:o<st.c)(hb:HB st):Br st.c o vs a st st:=
 ⟨hb,rfl,hs.lo,ho,hs.at_,fun _ _ _=>rfl,fun _ _ h _=>.inl h⟩
 mutual
theorem AV.NQ {c d:Nat} (h:c<=d):∀v:AV,v.CF c=true->v.CF d=true
 |.AO o _,e=>by simp[AV.CF,blt_eq] at e ⊢; omega
 |.AU o _ _ _,e=>by simp[AV.CF,blt_eq] at e ⊢; omega
 |.Cq o,e=>by simp[AV.CF,blt_eq] at e ⊢; omega
 |.BN cs,e=>by simp only[AV.CF] at e ⊢; exact AV.DZ h cs e
 |.agg cs,e=>by simp only[AV.CF] at e ⊢; exact AV.DZ h cs e
 |.tuple cs,e=>by simp only[AV.CF] at e ⊢; exact AV.DZ h cs e
 |.list _ _ cs,e=>by simp only[AV.CF] at e ⊢; exact AV.DZ h cs e
 |.Gs a b,e=>by simp only[AV.CF,Bool.and_eq_true] at e ⊢; exact⟨AV.DZ h a e.1,AV.DZ h b e.2⟩
 |.fn _ a b,e=>by simp only[AV.CF,Bool.and_eq_true] at e ⊢; exact⟨AV.DZ h a e.1,AV.DZ h b e.2⟩
 |.iface _ v,e=>by simp only[AV.CF] at e ⊢; exact AV.NQ h v e
 |.bool _,_=>rfl
 |.int _ _,_=>rfl
 |.str _,_=>rfl
 |.Ba,_=>rfl
 |.AB,_=>rfl
 |.De,_=>rfl
 |.Ih,_=>rfl
 |.Cs,_=>rfl
theorem AV.DZ {c d:Nat} (h:c<=d):∀l:List AV,AV.Cx c l=true->AV.Cx d l=true
 |[],_=>rfl
 |v::l,e=>by simp only[AV.Cx,Bool.and_eq_true] at e ⊢; exact⟨AV.NQ h v e.1,AV.DZ h l e.2⟩
end
theorem Al.NQ {c d:Nat}(h:c<=d)(x:Al)(e:Al.CF c x=true):Al.CF d x=true:=by
 cases x with
 |cells ty sz cs ext=>exact AV.DZ h cs e
 |map ks vs bs cl=>simp only[Al.CF,Bool.and_eq_true] at e ⊢; exact⟨AV.DZ h ks e.1,AV.DZ h vs e.2⟩
 |iter m s l t=>cases m with
  |none=>rfl
  |some o=>simp only[Al.CF,blt_eq,decide_eq_true_eq] at e ⊢; omega
section
variable {k:Nat}{o:Nat}{vs:AV}{zs:List Int}{a:Int}{st:St}
theorem Zr (hR:Nz (k+5))(hs:Ib st o vs a)(hv:CB vs zs)(ha:0<=a/\a<10000)(ho:o<st.c)(hb:HB st)(hh:HO st)(hlo:st.lo<=o) :
 ∃v0 v1 g m kv BC ls st1 st2 st3 h3,AX E (k+5) 4 [.AO o 0] ⟨(st.c,.cells 29 3 [.AB,.str [],.AB] false)::st.h,st.c+2,st.lo⟩=.ret (v0,st1) /\
  AX E (k+5) 49 [v0] st1=.ret (.agg [kv,.str g.start,.AU BC 0 ls.length none],st2) /\
  newObj (st.c+1) (.cells 29 3 [.AB,.str [],.AB] false) st2=some { st2 with h:=h3 } /\
  BJ 3 (.AO (st.c+1) 0) (.agg [kv,.str g.start,.AU BC 0 ls.length none]) { st2 with h:=h3 }=some (v1,st3) /\
  GS st.c o vs (a+m) st st3 g kv BC ls/\YR g/\0<=m/\m<=100:=by
 have hS1b:HB ⟨(st.c,.cells 29 3 [.AB,.str [],.AB] false)::st.h,st.c+2,st.lo⟩:=fun p x hx=>by
  show p<st.c+2
  rcases List.mem_cons.1 hx with h|h
  ·cases h; omega
  ·have:=hb p x h; omega
 have hoS:∀n,AA ((st.c,Al.cells 29 3 [.AB,.str [],.AB] false)::st.h) n=if st.c=n then some (.cells 29 3 [.AB,.str [],.AB] false) else AA st.h n:=fun n=>AJ _ _ _ _
 have hS1s:Ib ⟨(st.c,.cells 29 3 [.AB,.str [],.AB] false)::st.h,st.c+2,st.lo⟩ o vs a:=⟨by rw[hoS,if_neg (by omega)]; exact hs.at_,hs.lo⟩
 have hS1o:HO ⟨(st.c,.cells 29 3 [.AB,.str [],.AB] false)::st.h,st.c+2,st.lo⟩:=fun p x hx=>by
  rcases List.mem_cons.1 hx with h|h
  ·cases h; rfl
  ·exact Al.NQ (by show st.c<=st.c+2; omega) x (hh p x h)
 obtain⟨v0,g,m,st1,e1,hc1,K1,hg,hr,hm0,hm1⟩:=hR _ o vs zs a hS1s hv ha.1 ha.2 (by show o<st.c+2; omega) hlo hS1b hS1o
 have hc1':st1.c=st.c+2:=hc1
 have hlo1:st1.lo=st.lo:=K1.lo
 obtain⟨kv,BC,ls,st2,e2,hm,hgr⟩:=XX (k:=k+3) hg hr.small hr.some K1.hb (by rw[hlo1]; omega)
 rw[hc1'] at hm
 have hold2:∀p,p<st.c+2->AA st2.h p=AA st1.h p:=fun p hp=>hgr.CF p (by omega)
 have hold1:∀p,p<st.c+2->p≠o->AA st1.h p=AA ((st.c,Al.cells 29 3 [.AB,.str [],.AB] false)::st.h) p:=fun p hp hne=>K1.CF p hp hne
 have hnone:AA st2.h (st.c+1)=none:=by
  rw[hold2 _ (by omega),hold1 _ (by omega) (by omega),hoS,if_neg (by omega)]
  exact Js hb (by omega)
 obtain⟨h3,e3,f3,m3⟩:=QS (y:=.cells 29 3 [.AB,.str [],.AB] false) hnone
 have hg3:AA h3 (st.c+1)=some (.cells 29 3 [.AB,.str [],.AB] false):=by rw[f3,if_pos rfl]
 have e4:=FW (st:={ st2 with h:=h3 }) (n:=3) (vs:=[kv,.str g.start,.AU BC 0 ls.length none]) hg3 (by show st2.lo<=st.c+1; rw[hgr.lo,hlo1]; omega) rfl rfl
 refine⟨v0,_,g,m,kv,BC,ls,st1,st2,_,h3,e1,e2,e3,e4,?_,hr,hm0,hm1⟩
 have hrid:=hm.LC
 have hc2:st.c+2<=st2.c:=by have:=hgr.c; omega
 have hfin:∀p,p≠st.c+1->AA (Aa h3 (st.c+1) (.cells 29 3 [kv,.str g.start,.AU BC 0 ls.length none] false)) p=AA st2.h p:=fun p hp=>by
  rw[AY hg3,if_neg (Ne.symm hp),f3,if_neg (Ne.symm hp)]
 have hstrm2:AA st2.h o=some (.cells 25 2 [vs,.int .i64 (a+m)] false):=by rw[hold2 o (by omega)]; exact K1.GI
 refine⟨⟨fun p x hx=>?_,hgr.lo.trans hlo1,hs.lo,ho,?_,fun p hp hne=>?_,fun p x hx hp=>?_⟩,hc2,?_,?_,⟨hm.kinds.heap fun p hp=>?_,hm.iH,hrid,?_,hm.ln,fun j hl hr=>⟨(hm.each j hl hr).1.heap fun p hp=>?_,(hm.each j hl hr).2⟩,hm.inj,hm.three⟩⟩
 ·show p<st2.c
  obtain⟨x',h'⟩:=IQ hx
  rcases m3 p x' h' with h|h
  ·omega
  ·exact hgr.hb p x' h
 ·show AA (Aa h3 (st.c+1) _) o=_
  rw[hfin o (by omega)]; exact hstrm2
 ·show AA (Aa h3 (st.c+1) _) p=_
  rw[hfin p (by omega),hold2 p (by omega),hold1 p (by omega) hne,hoS,if_neg (by omega)]
 ·rcases Fu hx with h|h
  ·omega
  rcases m3 p x h with h|h
  ·omega
  have h:=hgr.mem p x h (by omega)
  rcases K1.mem p x h (by omega) with h|h
  ·rcases List.mem_cons.1 h with h|h
   ·cases h; omega
   ·exact .inl h
  ·exact .inr h
 ·show AA (Aa h3 (st.c+1) _) (st.c+1)=_
  rw[AY hg3,if_pos rfl]
 ·show AA (Aa h3 (st.c+1) _) st.c=_
  rw[hfin _ (by omega),hold2 _ (by omega),hold1 _ (by omega) (by omega),hoS,if_pos rfl]
 ·have:=hm.iH p hp
  show AA (Aa h3 (st.c+1) _) p=_
  exact hfin p (by omega)
 ·show AA (Aa h3 (st.c+1) _) BC=_
  rw[hfin _ (by omega)]; exact hm.rules
 ·have:=(hm.each j hl hr).2 p hp
  show AA (Aa h3 (st.c+1) _) p=_
  exact hfin p (by omega)
end
end Go.Am
end
namespace Go.Am
open Go
section
variable {c o:Nat}{vs:AV}{zs:List Int}{a:Int}{st0 st:St}{g:Ak}
theorem cu (F:GF c o vs a st0 st g)(hc:c=st0.c)(hv:CB vs zs)(ho:HO st0) :
 ∃kv rv v st' st2,Ac st.h (.AO (c+1) 0) 3=some [kv,.str g.start,rv]/\BJ 3 (.AO c 0) (.agg [kv,.str g.start,rv]) st=some (.undef,st') /\
  Ac st'.h (.AO c 0) 3=some [kv,.str g.start,rv]/\GK c (.agg [kv,.str g.start,rv],st')=.ret (v,st2)/\st2.c=c/\Br c o vs a st0 st2/\Bl v g:=by
 obtain⟨kv,rv,ls,hg,hk,hr,hrv⟩:=F.MV
 have hlo:st.lo<=c:=by rw[F.k.lo]; have:=F.k.MP; have:=F.k.oc; omega
 have hsto:=FW (n:=3) (vs:=[kv,.str g.start,rv]) F.Xu hlo rfl rfl
 have K2:=F.k.Aa (p:=c) (x:=.cells 29 3 [kv,.str g.start,rv] false) (Nat.le_refl _) F.Xu
 have hf:∀p,c<p->AA (Aa st.h c (.cells 29 3 [kv,.str g.start,rv] false)) p=AA st.h p:=fun p hp=>by rw[AY F.Xu,if_neg (by omega)]
 obtain⟨v,e1,e2⟩:=UX (g:=g) (kv:=kv) (rv:=rv) (ls:=ls) K2 hc hv ho (hk.frame hf) (hr.frame hf) (by
  rcases hrv with h|⟨p,cap,ty,ext,rest,h1,h2,h3⟩
  ·exact .inl h
  ·exact .inr ⟨p,cap,ty,ext,rest,h1,h2,(hf p h2).trans h3⟩)
 exact⟨kv,rv,v,_,_,Bj hg rfl,hsto,Bj (by show AA (Aa _ _ _) c=_; rw[AY F.Xu,if_pos rfl]) rfl,e1,rfl,K2.drop,e2⟩
theorem Br.to {b:Int}(K:Br c o vs a st0 st)(e:a=b):Br c o vs b st0 st:=by subst e; exact K
theorem GS.tick {kv:AV}{BC:Nat}{ls:List AV}(H:GS c o vs a st0 st g kv BC ls)(b:Int):GS c o vs b st0 (tick st o vs b) g kv BC ls:=by
 have hf:∀p,p≠o->AA (Am.tick st o vs b).h p=AA st.h p:=fun p hp=>Cj H.k.GI hp
 have hoc:=H.k.oc
 have hrid:=H.m.LC
 exact⟨H.k.tick b,H.cc,by rw[hf _ (by omega)]; exact H.MV,by rw[hf _ (by omega)]; exact H.Xu,
  ⟨H.m.kinds.heap fun p hp=>hf p (by have:=(H.m.iH p hp).1; omega),H.m.iH,H.m.LC,by rw[hf _ (by omega)]; exact H.m.rules,H.m.ln,
   fun j hl hr=>⟨(H.m.each j hl hr).1.heap fun p hp=>hf p (by have:=((H.m.each j hl hr).2 p hp).1; omega),(H.m.each j hl hr).2⟩,H.m.inj,H.m.three⟩⟩
theorem GS.eF {kv:AV}{BC:Nat}{ls:List AV}(H:GS c o vs a st0 st g kv BC ls)(hs:g.Small) :
 ∃st',BJ 1 (.AO (c+1) 2) .AB st=some (.undef,st')/\GF c o vs a st0 st' { g with rules:=[] }:=by
 have hlo:st.lo<=c+1:=by rw[H.k.lo]; have:=H.k.MP; have:=H.k.oc; omega
 have hrid:=H.m.LC
 have hsto:=Cr (off:=2) (v:=.AB) H.MV hlo (by simp) rfl rfl
 refine⟨_,hsto,H.k.Aa (by omega) H.MV,H.cc,by show AA (Aa _ _ _) c=_; rw[AY H.MV,if_neg (by omega)]; exact H.Xu,⟨hs.kinds,hs.names,hs.start,by simp,by simp⟩,kv,.AB,[],by show AA (Aa _ _ _) (c+1)=_; rw[AY H.MV,if_pos rfl]; rfl,H.NW fun p hp=>?_,.nil,.inl ⟨rfl,rfl⟩⟩
 have:=H.NY hp
 show AA (Aa _ _ _) p=_
 rw[AY H.MV,if_neg (by omega)]
theorem GS.eH {kv:AV}{BC:Nat}{ls:List AV}(H:GS c o vs a st0 st g kv BC ls)(hs:g.Small) :
 ∃st',BJ 1 (.AO (c+1) 0) .AB st=some (.undef,st')/\GF c o vs a st0 st' { g with kinds:=[] }:=by
 have hlo:st.lo<=c+1:=by rw[H.k.lo]; have:=H.k.MP; have:=H.k.oc; omega
 have hrid:=H.m.LC
 have hsto:=Cr (off:=0) (v:=.AB) H.MV hlo (by simp) rfl rfl
 refine⟨_,hsto,H.k.Aa (by omega) H.MV,H.cc,by show AA (Aa _ _ _) c=_; rw[AY H.MV,if_neg (by omega)]; exact H.Xu,⟨by simp,by simp,hs.start,hs.many,hs.rules⟩,.AB,_,ls,by show AA (Aa _ _ _) (c+1)=_; rw[AY H.MV,if_pos rfl]; rfl,.inl ⟨rfl,rfl⟩,H.NL fun p h1 h2=>?_,.inr ⟨BC,none,47,true,[],rfl,by omega,?_⟩⟩
 ·show AA (Aa _ _ _) p=_
  rw[AY H.MV,if_neg (by omega)]
 ·show AA (Aa _ _ _) BC=_
  rw[AY H.MV,if_neg (by omega),List.append_nil]; exact H.m.rules
end
section
variable {k:Nat}{o:Nat}{vs:AV}{zs:List Int}{a:Int}{st:St}
theorem gT (hR:Nz (k+5))(hs:Ib st o vs a)(hv:CB vs zs)(ha:0<=a/\a<10000)(ho:o<st.c)(hb:HB st)(hh:HO st)(hlo:st.lo<=o) :
 ∃v g m st',AX E (k+6) 19 [.AO o 0] st=.ret (v,st')/\st'.c=st.c/\Br st.c o vs (a+m) st st'/\Bl v g/\g.Small/\0<=m/\m<=200:=by
 obtain⟨v0,v1,g,m,kv,BC,ls,st1,st2,st3,h3,e1,e2,e3,e4,H,hr,hm0,hm1⟩:=Zr hR hs hv ha ho hb hh hlo
 rw[Sk (fn:=C.f19) rfl rfl rfl,Af (by simp)]
 have hb':∀p x,(p,x)∈st.h->p<st.c:=hb
 have hflip:=Ql (k:=k+2) H.k.st hv (by omega) (n:=5) (by unfold MK; omega)
 have H4:=H.tick (a+m+1)
 have hnext:=FX (k:=k+3) H4.k.st hv (by omega) (n:=(ls.length:Int)) (by unfold MK; have:=hr.many; have:=H.m.ln; omega)
 have H5:=H4.tick (a+m+1+1)
 have hnext2:=FX (k:=k+3) H5.k.st hv (by omega) (n:=10) (by unfold MK; omega)
 have H6:=H5.tick (a+m+1+1+1)
 have hln:=H.m.ln
 have hsome:=hr.some
 have hmany:=hr.many
 have hi:=Cg (zs:=zs) (a:=a+m+1+1) (n:=(ls.length:Int)) (by omega)
 have hd:=Cg (zs:=zs) (a:=a+m+1+1+1) (n:=10) (by omega)
 obtain⟨i,hie⟩:∃i:Nat,BK zs (a+m+1+1) (ls.length:Int)=i:=⟨(BK zs (a+m+1+1) (ls.length:Int)).toNat,by omega⟩
 rw[hie] at hnext
 have hil:i<ls.length:=by omega
 have hl1:AP (tick st3 o vs (a+m+1)).h (.AO (st.c+1) 2)=some (.AU BC 0 ls.length none):=by rw[AL H4.MV]; rfl
 have goal:((BF E (AX E (k+5)) C.f19.body (TS.Cm [.AO o 0] 0 .nil) st).bind (leave C.f19.results)).to fun r=>∃v g m st',GK st.c r=.ret (v,st')/\st'.c=st.c/\Br st.c o vs (a+m) st st'/\Bl v g/\g.Small/\0<=m/\m<=200:=by
  have hg0:(k+5)=(k+2)+3:=rfl
  have fin:∀(q:Nat) (ts:TS) (S:St) (b:Int) (g':Ak) (mm:Int),q≠2->q<65535->GF st.c o vs b st S g'->b=a+mm->0<=mm->mm<=200->ts.get 2=.AO st.c 0->ts.get 3=.AO (st.c+1) 0 ->
   (((M.Bt (Df S ((Ac S.h (.AO (st.c+1) 0) 3).map .agg))).bind fun x=>(M.Bt (BJ 3 (.AO st.c 0) x.1 x.2)).bind fun y=>leave [.cell 2 (some 3)] (.ret,ts.set q x.1,y.2))).to fun r=>∃v g m st',GK st.c r=.ret (v,st')/\st'.c=st.c/\Br st.c o vs (a+m) st st'/\Bl v g/\g.Small/\0<=m/\m<=200:=by
   intro q ts S b g' mm hq1 hq2 F hbm hmm0 hmm1 h2 h3
   obtain⟨kv',rv',v',st',st2',r1,r2,r3,r4,r5,r6,r7⟩:=cu F rfl hv hh
   simp[r1,r2,leave,results,AR,hq1,hq2,h2,r3]
   exact⟨v',g',mm,st2',r4,r5,r6.to hbm,r7,F.small,hmm0,hmm1⟩
  have after:∀(ts:TS) (st':St) (r:Jl × TS × St),Fg st.c o vs (a+m+1+1+1) st ts r->ts.get 2=.AO st.c 0->ts.get 3=.AO (st.c+1) 0->r.1=.normal/\r.2.1.get 2=.AO st.c 0/\r.2.1.get 3=.AO (st.c+1) 0/\∃g' m',0<=m'/\m'<=5/\GF st.c o vs (a+m+1+1+1+m') st r.2.2 g':=fun ts st' r h h2 h3=>⟨h.1,h.2.1.trans h2,h.2.2.1.trans h3,h.2.2.2⟩
  simp[C.f19,Ao hb',e1,e2,e3,e4,hflip]
  by_cases hfl:BK zs (a+m+1) 5=0
  ·have hfb:(BK zs (a+m+1) 5==0)=true:=by simp[hfl]
   simp[hfb,hl1,Be,Bu,hnext,hnext2]
   obtain⟨d,hde⟩:∃d:Nat,BK zs (a+m+1+1+1) 10=d:=⟨(BK zs (a+m+1+1+1) 10).toNat,by omega⟩
   rw[hde] at hd ⊢
   have hd10:d=0∨d=1∨d=2∨d=3∨d=4∨d=5∨d=6∨d=7∨d=8∨d=9:=by omega
   rcases hd10 with rfl|rfl|rfl|rfl|rfl|rfl|rfl|rfl|rfl|rfl
   ·simp
    refine M.BX (ll (k:=k+2) hv (by omega) H6 hr.small hr.kinds (by simp) (by simp)) fun r hr=>?_
    obtain⟨x,ts',st'⟩:=r
    obtain⟨rfl,h2',h3',g',m',hm0',hm1',F⟩:=after _ st _ hr (by simp) (by simp)
    simp only at h2' h3' F
    simp[h2',h3']
    exact fin 117 ts' st' _ g' (m+1+1+1+m') (by omega) (by omega) F (by omega) (by omega) (by omega) h2' h3'
   ·simp[C.f19L16]
    refine M.BX (lh (k:=k+2) hv (by omega) H6 hr.small (by simp) (by simp)) fun r hr=>?_
    obtain⟨x,ts',st'⟩:=r
    obtain⟨rfl,h2',h3',g',m',hm0',hm1',F⟩:=after _ st _ hr (by simp) (by simp)
    simp only at h2' h3' F
    simp[h2',h3']
    exact fin 117 ts' st' _ g' (m+1+1+1+m') (by omega) (by omega) F (by omega) (by omega) (by omega) h2' h3'
   ·simp[C.f19L16,C.f19L14]
    refine M.BX (lg (k:=k+2) hv (by omega) H6 hr.small (by simp) (by simp) hil (by simp)) fun r hr=>?_
    obtain⟨x,ts',st'⟩:=r
    obtain⟨rfl,h2',h3',g',m',hm0',hm1',F⟩:=after _ st _ hr (by simp) (by simp)
    simp only at h2' h3' F
    simp[h2',h3']
    exact fin 117 ts' st' _ g' (m+1+1+1+m') (by omega) (by omega) F (by omega) (by omega) (by omega) h2' h3'
   ·simp[C.f19L16,C.f19L14,C.f19L12]
    refine M.BX (lZ (k:=k+2) hv (by omega) H6 hr.small hr.jB (by simp) (by simp) hil (by simp)) fun r hr=>?_
    obtain⟨x,ts',st'⟩:=r
    obtain⟨rfl,h2',h3',g',m',hm0',hm1',F⟩:=after _ st _ hr (by simp) (by simp)
    simp only at h2' h3' F
    simp[h2',h3']
    exact fin 117 ts' st' _ g' (m+1+1+1+m') (by omega) (by omega) F (by omega) (by omega) (by omega) h2' h3'
   ·simp[C.f19L16,C.f19L14,C.f19L12,C.f19L10]
    refine M.BX (lY (k:=k+2) hv (by omega) H6 hr.small (by simp) (by simp) hil (by simp)) fun r hr=>?_
    obtain⟨x,ts',st'⟩:=r
    obtain⟨rfl,h2',h3',g',m',hm0',hm1',F⟩:=after _ st _ hr (by simp) (by simp)
    simp only at h2' h3' F
    simp[h2',h3']
    exact fin 117 ts' st' _ g' (m+1+1+1+m') (by omega) (by omega) F (by omega) (by omega) (by omega) h2' h3'
   ·simp[C.f19L16,C.f19L14,C.f19L12,C.f19L10,C.f19L8]
    refine M.BX (lX (k:=k+2) (by omega) H6 hr.small hr.many (by simp) hil (by simp)) fun r hr=>?_
    obtain⟨x,ts',st'⟩:=r
    obtain⟨rfl,h2',h3',g',m',hm0',hm1',F⟩:=after _ st _ hr (by simp) (by simp)
    simp only at h2' h3' F
    simp[h2',h3']
    exact fin 117 ts' st' _ g' (m+1+1+1+m') (by omega) (by omega) F (by omega) (by omega) (by omega) h2' h3'
   ·obtain⟨st',hsto,F⟩:=H6.eF hr.small
    simp[C.f19L16,C.f19L14,C.f19L12,C.f19L10,C.f19L8,C.f19L6,hsto]
    exact fin 117 _ st' _ _ (m+1+1+1) (by omega) (by omega) F (by omega) (by omega) (by omega) (by simp) (by simp)
   ·simp[C.f19L16,C.f19L14,C.f19L12,C.f19L10,C.f19L8,C.f19L6,C.f19L4]
    refine M.BX (lW (k:=k+2) hv (by omega) H6 hr.small (by simp) (by simp) hil (by simp)) fun r hr=>?_
    obtain⟨x,ts',st'⟩:=r
    obtain⟨rfl,h2',h3',g',m',hm0',hm1',F⟩:=after _ st _ hr (by simp) (by simp)
    simp only at h2' h3' F
    simp[h2',h3']
    exact fin 117 ts' st' _ g' (m+1+1+1+m') (by omega) (by omega) F (by omega) (by omega) (by omega) h2' h3'
   ·simp[C.f19L16,C.f19L14,C.f19L12,C.f19L10,C.f19L8,C.f19L6,C.f19L4,C.f19L3]
    refine M.BX (lV (k:=k+2) (by omega) H6 hr.small (by simp) hil (by simp)) fun r hr=>?_
    obtain⟨x,ts',st'⟩:=r
    obtain⟨rfl,h2',h3',g',m',hm0',hm1',F⟩:=after _ st _ hr (by simp) (by simp)
    simp only at h2' h3' F
    simp[h2',h3']
    exact fin 117 ts' st' _ g' (m+1+1+1+m') (by omega) (by omega) F (by omega) (by omega) (by omega) h2' h3'
   ·obtain⟨st',hsto,F⟩:=H6.eH hr.small
    simp[C.f19L16,C.f19L14,C.f19L12,C.f19L10,C.f19L8,C.f19L6,C.f19L4,C.f19L3,hsto]
    exact fin 117 _ st' _ _ (m+1+1+1) (by omega) (by omega) F (by omega) (by omega) (by omega) (by simp) (by simp)
  ·have hfb:(BK zs (a+m+1) 5==0)=false:=beq_false_of_ne hfl
   simp[hfb,C.f19L0]
   exact fin 11 _ _ _ _ (m+1) (by omega) (by omega) ((H.tick (a+m+1)).fin hr.small) (by omega) (by omega) (by omega) (by simp) (by simp)
 obtain⟨r,h1,v,g',m',st',h2,h3,h4⟩:=goal
 exact⟨v,g',m',st',by rw[h1]; exact h2,h3,h4⟩
end
end Go.Am
