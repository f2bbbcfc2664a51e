/- A part of tablesStay. -/
import Derived.Test.YthnghmpbgomacaaGreatDoorW4
namespace Go.Am
open Go
def CL:Aa->Nat
 |[]=>0
 |(p,_)::h=>max (p+1) (CL h)
theorem OW{h:Aa}{n:Nat}:CL h<=n↔∀p x,(p,x)∈h->p<n:=by
 induction h with
 |nil=>simp[CL]
 |cons q h d=>
  obtain⟨p,x⟩:=q;simp only[CL,Nat.max_le,d,BK,JL];constructor
  ·rintro⟨f,e⟩ a b (⟨rfl,rfl⟩|h)
   ·omega
   ·exact e a b h
  ·intro h;exact⟨h p x (.inl ⟨rfl,rfl⟩),fun a b c=>h a b (.inr c)⟩
theorem HB.CL{h:Aa}{c lo:Nat}(H:HB ⟨h,c,lo⟩):CL h<=c:=OW.2 H
theorem lS{h:Aa}{c a:Nat}(H:CL h<=c):HB ⟨h,c,a⟩:=OW.1 H
theorem Ay{p n:Nat}{x:BJ}{h:Aa}:CL ((p,x)::h)<=n↔p<n/\CL h<=n:=by simp only[CL,Nat.max_le];omega
theorem Cg{h:Aa}{o:Nat}{y:BJ}:CL (Ah h o y)=CL h:=by
 induction h with
 |nil=>rfl
 |cons q h a=>obtain⟨p,x⟩:=q;simp only[Ah];cases Nat.beq p o<;>simp[CL,a]
theorem Xu{h:Aa}{o:Nat}:CL (Jv h o)<=CL h:=by
 induction h with
 |nil=>exact Ao _
 |cons q h a=>obtain⟨p,x⟩:=q;simp only[Jv];cases Nat.beq p o<;>simp only[Ba,Bj,CL]<;>omega
theorem BF{o c lo:Nat}{y:BJ}{h:Aa}(H:CL h<=o):BA o y ⟨h,c,lo⟩=some ⟨(o,y)::h,c,lo⟩:=Bb (OW.1 H)
theorem BV{p q:Nat}{x:BJ}{h:Aa}(e:p=q):AA ((p,x)::h) q=some x:=by rw[AZ,AX e]
theorem Ar{p q:Nat}{x:BJ}{h:Aa}(e:p≠q):AA ((p,x)::h) q=AA h q:=by rw[AZ,AJ e]
theorem dN{p q:Nat}{x y:BJ}{h:Aa}(e:p=q):Ah ((p,x)::h) q y=(p,y)::h:=by subst e;simp[Ah]
theorem qI{p q:Nat}{x y:BJ}{h:Aa}(e:p≠q):Ah ((p,x)::h) q y=(p,x)::Ah h q y:=by simp[Ah,beq_eq,e]
theorem Fy{p q:Nat}{y:BJ}{h:Aa}(e:p=q):AA (Ah h p y) q=(AA h q).map fun _=>y:=by
 subst e;cases hf:AA h p with
 |some x=>rw[Ag hf,AX rfl];rfl
 |none=>
  induction h with
  |nil=>rfl
  |cons r h a=>
   obtain⟨i,z⟩:=r;rw[AZ]at hf;by_cases e:i=p
   ·rw[AX e]at hf;cases hf
   ·rw[AJ e]at hf;rw[qI e,AZ,AJ e];exact a hf
theorem Bn{p q:Nat}{y:BJ}{h:Aa}(e:p≠q):AA (Ah h p y) q=AA h q:=by
 induction h with
 |nil=>rfl
 |cons r h a=>
  obtain⟨i,z⟩:=r;by_cases e2:i=p
  ·rw[dN e2,AZ,AZ,AJ (by omega),AJ (by omega)]
  ·rw[qI e2,AZ,AZ,a]
def cellAt(x:Option BJ)(off:Nat):Option AV:=match x with
 |some (.cells _ _ cs _)=>cs[off]?
 |_=>none
@[simp] theorem Ik{d c a:Nat}{b:List AV}{ext:Bool}:cellAt (some (.cells d c b ext)) a=b[a]?:=rfl
theorem BB{h:Aa}{o a:Nat}:AQ h (.AL o a)=cellAt (AA h o) a:=by simp only[AQ,cellAt];split<;>simp_all
def Xk(x:Option BJ)(off n:Nat):Option (List AV):=match x with
 |some (.cells _ _ cs _)=>if off+n<=cs.length then some ((cs.drop off).take n) else none
 |_=>none
@[simp] theorem Pf{d c a n:Nat}{b:List AV}{ext:Bool}:Xk (some (.cells d c b ext)) a n=if a+n<=b.length then some ((b.drop a).take n) else none:=rfl
theorem Bv{h:Aa}{o a n:Nat}:Ak h (.AL o a) n=Xk (AA h o) a n:=by simp only[Ak,Xk,ble_eq,Ad,Aw];split<;>simp_all
def putAt(x:Option BJ)(o off:Nat)(vs:List AV)(h:Aa)(c lo:Nat):R:=match x with
 |some (.cells ty sz cs ext)=>if lo<=o/\off+vs.length<=cs.length then some (.undef,⟨Ah h o (.cells ty sz (Bl cs off vs) ext),c,lo⟩) else none
 |_=>none
@[simp] theorem CW{o a f sz c e:Nat}{d b:List AV}{ext:Bool}{h:Aa}:putAt (some (.cells f sz d ext)) o a b h c e=if e<=o/\a+b.length<=d.length then some (.undef,⟨Ah h o (.cells f sz (Bl d a b) ext),c,e⟩) else none:=rfl
theorem CE{n o a c b:Nat}{v:AV}{h:Aa}:BM n (.AL o a) v ⟨h,c,b⟩=if v.isTuple=false/\v.cells.length=n then putAt (AA h o) o a v.cells h c b else none:=by
 simp only[BM,putAt,CO,beq_eq,blt_eq,ble_eq];cases v.isTuple
 ·by_cases hn:v.cells.length=n
  ·simp only[hn,Bool.false_or,Ff,Lf,Bj,and_self,FC];by_cases hl:o<b
   ·simp only[hl,Ff,Ba];split
    ·rw[AJ (by omega)];rfl
    ·rfl
   ·simp only[hl,Lb,Bj];split
    ·rename_i j i f ext d;rw[d];by_cases hb:a+n<=f.length
     ·simp[hb,show b<=o by omega]
     ·simp[hb];rfl
    ·rename_i g;split
     ·rename_i e;exact absurd e (g _ _ _ _)
     ·rfl
  ·simp[hn]
 ·simp
@[simp] theorem AFJ{a x:AV}{l:List AV}:Bl (a::l) 0 [x]=x::l:=by simp[Bl]
@[simp] theorem AFI{a b x:AV}{l:List AV}:Bl (a::b::l) 1 [x]=a::x::l:=by simp[Bl]
@[simp] theorem AFH{a b c x:AV}{l:List AV}:Bl (a::b::c::l) 2 [x]=a::b::x::l:=by simp[Bl]
@[simp] theorem ADn{a b c x y z:AV}{l:List AV}:Bl (a::b::c::l) 0 [x,y,z]=x::y::z::l:=by simp[Bl]
@[simp] theorem AGC{o c b:Nat}{a:List AV}:Ls o c b (.agg a)=some (.AL o 0,.cells c b a false):=rfl
@[simp] theorem AGo{o d c:Nat}{f:Fn}{a b:List AV}:Ls o d c (.fn f a b)=some (.AL o 0,.cells d c [.fn f a b] false):=rfl
@[simp] theorem AGB{o b a:Nat}{s:Bz}:Ls o b a (.str s)=some (.AL o 0,.cells b a [.str s] false):=rfl
def Has(ts:TS):List (Nat×AV)->Prop
 |[]=>True
 |(i,v)::l=>ts.get i=v/\Has ts l
@[simp] theorem CG{a:TS}:Has a []=True:=rfl
@[simp] theorem Be{a:TS}{i:Nat}{v:AV}{l:List (Nat×AV)}:Has a ((i,v)::l)=(a.get i=v/\Has a l):=rfl
theorem Fb{h:Aa}{p:Nat}{x:BJ}(H:AA h p=some x):p<CL h:=by
 rcases FU p (CL h)with a|a
 ·exact a
 ·rw[TZ (OW.1 (Ao _)) a]at H;cases H
inductive Acc (h:Aa) (ty:Nat):AV->List AV->Prop
 |nl:Acc h ty .AO []
 |ob (id:Nat) (V:List AV) (cap:Option Nat) (ext:Bool) (hf:AA h id=some (.cells ty 1 V ext)) (hc:(cap=none/\ext=true)∨cap=some V.length):Acc h ty (.AU id 0 V.length cap) V
@[simp] theorem AHv{o:Nat}{a:Bz}:BC o 9 1 1 [.str []] [0] [.str a]=some (.AU o 0 1 (some 1),.cells 9 1 [.str a] false):=rfl
@[simp] theorem AHu{o:Nat}{a b:Bz}:BC o 9 1 2 [.str [],.str []] [0,1] [.str a,.str b]=some (.AU o 0 2 (some 2),.cells 9 1 [.str a,.str b] false):=rfl
end Go.Am
