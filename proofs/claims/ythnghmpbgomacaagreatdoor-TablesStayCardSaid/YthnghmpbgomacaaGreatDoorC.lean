/- A part of tablesStay. -/
import Derived.Test.YthnghmpbgomacaaGreatDoorB
import Derived.LoopN
import Derived.Orders
namespace Go.Am
open Go Go.RowKit
variable {P:Program}
section
variable {base:Nat}{w0:Start}{I:HY}{μ:Mu}{st:St}{w:World}
def dU(P:Program)(t:TypeId)(f off:Nat)(agg:Option Nat):Bool:=
 match P.underlying t with
 |some (.struct fs)=>(match fs[f]? with
  |some fd=>Nat.beq fd.offset off&&aC P fd.type agg
  |none=>false)
 |_=>false
theorem yP{t:TypeId}{f a:Nat}{agg:Option Nat}(b:dU P t f a agg=true){x v:AV}{r:Value}{e:St}(A:BO I μ x r)(h:Sk a agg x st=some (v,e)) :
 e=st/\∃j,(Instr.field t r f).run P w=.ok j w/\BO I μ v j:=by
 unfold dU at b;split at b
 ·rename_i K p;split at b
  ·rename_i H g;rw[Aq]at b;have c:=Cb b.1;unfold Sk at h;cases A with
   |agg L m o F=>
    have J:=o.length;cases agg with
    |some n=>
     obtain⟨d,i,k,s,l,q⟩:=bG b.2;simp only[ble_eq,Ad,Aw]at h;split at h
     ·rename_i D;cases h;refine⟨rfl,.agg ((m.drop a).take n).toArray,?_,.agg _ _ ((o.drop a).take n) ((F.drop a).take n)⟩;simp only[Instr.field,CJ,BQ p,Dj,g,asAgg,Cs,c,part,Ps k,l,FC,FY s,q];congr 2;apply Ld;simp
     ·cases h
    |none=>
     obtain⟨d,i,k,s,l,q⟩:=bH b.2;simp only[Ia]at h;split at h
     ·rename_i u z;cases h;obtain⟨j,y,B⟩:=o.get a v z;refine⟨rfl,j,?_,B⟩;simp only[Instr.field,CJ,BQ p,Dj,g,asAgg,Cs,c,part,Ps k,l,GA,Dn];simp[y]
     ·cases h
   |_=>simp at h
  ·cases b
 ·cases b
def Ta(b:Bool)(l:List Operand):Option (List Operand):=bif b then some l else none
theorem DL{b:Bool}{l a:List Operand}(h:Ta b l=some a):b=true/\a=l:=by unfold Ta at h;cases b<;>simp at h;exact⟨rfl,h.symm⟩
def isInt(P:Program)(t:TypeId)(k:Option IntKind):Bool:=match P.underlying t with
 |some (.int j)=>(match k with|some k=>VK j k|none=>true)
 |_=>false
def isStr(P:Program)(t:TypeId):Bool:=match P.underlying t with
 |some .string=>true
 |_=>false
def Qz(P:Program)(t:TypeId):TypeId:=match P.underlying t with
 |some (.slice e)=>e
 |some (.array _ e)=>e
 |some (.pointer e)=>e
 |_=>0
def Yc(P:Program)(t:TypeId):Bool:=match P.underlying t with
 |some (.interface _)=>false
 |some _=>true
 |none=>false
def mh(P:Program)(t:TypeId):Bool:=match P.underlying t with
 |some (.int _)=>false
 |some _=>true
 |none=>false
def KV(P:Program)(k:AK)(src dst:TypeId):Bool:=
 match k with
 |.De j=>isInt P src none&&isInt P dst (some j)
 |.PR=>(isStr P src||isInt P src none)&&isStr P dst
 |.NJ _ ty=>ACU P src dst ty
 |.PS=>ADS P src dst
 |.UO ty n=>lL P src dst ty n
 |_=>false
def Ms(P:Program)(k:AK)(op:BinOp)(t:TypeId)(x y:Operand):Bool:=
 match k with
 |.bin op'=>decide (op=op')
 |.eq neg k=>decide (op=if neg then .neq else .eql)&&eqB P t x y k
 |.XN neg ts=>decide (op=if neg then .neq else .eql)&&ifB P t ts
 |_=>false
def JH(P:Program)(k:AK)(t:TypeId)(l h m:Bool):Bool:=
 match k with
 |.IP lo hi=>isStr P t&&lo==l&&hi==h&&!m
 |.slice sz lo hi mx=>Td P t (Qz P t) sz&&lo==l&&hi==h&&mx==m&&(!m||h)
 |.Pq len sz lo hi=>uE P t len (Qz P t) sz&&lo==l&&hi==h&&!m
 |_=>false
def Jc(P:Program)(k:AK)(t:TypeId):Bool:=
 match k with
 |.indexAddr sz=>Td P t (Qz P t) sz
 |.KC len sz=>uE P t len (Qz P t) sz
 |_=>false
def JW(P:Program)(k:AK)(b:Builtin)(ts:List TypeId):Bool:=
 match b,ts with
 |.len,[t]=>(match k with|.len lk=>ACm P t lk|_=>false)
 |.cap,[t]=>(match k with|.cap=>(match P.underlying t with|some (.slice _)=>true|_=>false)|_=>false)
 |.min,_=>(match k with|.min=>true|_=>false)
 |.max,_=>(match k with|.max=>true|_=>false)
 |.append,[t,u]=>(match k with
  |.append _ ty sz bytes=>Jn P t ty sz bytes&&mh P u
  |.OG _ ty=>Jn P t ty 1 1&&isStr P u
  |_=>false)
 |.copy,[t,_]=>(match k with|.copy sz=>Td P t (Qz P t) sz|_=>false)
 |.clear,[t]=>(match k with|.clear zero=>(match P.info? (Qz P t) with|some i=>QB P t (Qz P t) i.size i.bytes zero|none=>false)|_=>false)
 |.unsafeSliceData,_=>(match k with|.Rk=>true|_=>false)
 |.unsafeString,[t,_]=>(match k with|.Pn ty=>lK P t ty|_=>false)
 |_,_=>false
def Np(P:Program)(X:Nat->Option Ext)(k:AK)(c:Call):Option (List Operand):=
 match c.callee with
 |.builtin b=>Ta (JW P k b c.argTypes.toList) c.args.toList
 |.invoke r name=>(match k with|.invoke n=>Ta (n==name) (r::c.args.toList)|_=>none)
 |.value f=>(match k with
  |.call g=>(match f with|.func f=>Ta (Nat.beq f g) c.args.toList|_=>none)
  |.ext _=>(match f with|.func f=>(match X f with|some e=>Ta (match k,e with|.ext .same,.same=>true|.ext .indexByte,.indexByte=>true|.ext .compare,.compare=>true|_,_=>false) c.args.toList|none=>none)|_=>none)
  |.Ko=>some (f::c.args.toList)
  |_=>none)
def UD(P:Program)(X:Nat->Option Ext)(k:AK)(op:Op):Option (List Operand):=
 match op with
 |.move x=>(match k with|.move=>some [x]|_=>none)
 |.assign x=>(match k with|.move=>some [x]|_=>none)
 |.pick c a b=>(match k with|.pick=>some [c,a,b]|_=>none)
 |.alloc e=>(match k with|.alloc _ ty _ zero=>Ta (Nat.beq e ty&&aD P ty zero) []|_=>none)
 |.box e x=>(match k with|.box _ ty _=>Ta (Nat.beq e ty) [x]|_=>none)
 |.build t parts=>(match k with|.build zero places=>Ta (oZ P t parts.toList zero places) (parts.toList.map (·.2))|_=>none)
 |.buildSlice t n parts=>(match k with|.buildSlice _ ty sz len zero offs=>Ta (Nat.beq n len&&SX P t ty sz len parts.toList zero offs) (parts.toList.map (·.2))|_=>none)
 |.load t a=>(match k with|.load agg=>Ta (aC P t agg) [a]|_=>none)
 |.store t a x=>(match k with|.store n=>Ta ((P.info? t).map (·.size)==some n) [a,x]|_=>none)
 |.nilCheck x=>(match k with|.nilCheck=>some [x]|_=>none)
 |.binOp op t x y _=>Ta (Ms P k op t x y) [x,y]
 |.unOp op _ x=>(match k with|.un op'=>Ta (decide (op=op')) [x]|_=>none)
 |.convert src dst x=>Ta (KV P k src dst) [x]
 |.makeInterface t x=>(match k with|.GN u=>Ta (Nat.beq t u&&Yc P t) [x]|_=>none)
 |.makeFunc f first captured=>(match k with|.Nk g n=>Ta (decide (f=g)&&Nat.beq n first.size) (first.toList++captured.toList)|_=>none)
 |.makeMap _ r=>(match k with|.mkMap _=>Ta r.isNone []|_=>none)
 |.makeSlice t l c=>(match k with|.mkSlice _ ty sz bytes zero=>Ta (QB P t ty sz bytes zero) [l,c]|_=>none)
 |.slice t x l h m=>Ta (JH P k t l.isSome h.isSome m.isSome) (x::(l.toList++(h.toList++m.toList)))
 |.fieldAddr s x f=>(match k with|.fieldAddr off=>Ta (dV P s f off) [x]|_=>none)
 |.field s x f=>(match k with|.field off agg=>Ta (dU P s f off agg) [x]|_=>none)
 |.indexAddr t x i=>Ta (Jc P k t) [x,i]
 |.index t x i=>(match k with|.Fw=>Ta (isStr P t) [x,i]|_=>none)
 |.lookup t x i ok=>(match k with|.lookup kk zero ok'=>Ta (QC P t kk zero&&ok==ok') [x,i]|_=>none)
 |.mapUpdate t m i x=>(match k with|.mapUpdate kk=>Ta (AAW P t kk) [m,i,x]|_=>none)
 |.insert t m i x=>(match k with|.mapUpdate kk=>Ta (AAW P t kk) [m,i,x]|_=>none)
 |.mapEntry t m i=>(match k with|.mapEntry kk zero=>Ta (QC P t kk zero) [m,i]|_=>none)
 |.entryStore _ m s x=>(match k with|.entryStore=>some [m,s,x]|_=>none)
 |.range t x=>(match k with|.rangeMap _=>Ta (xL P t) [x]|_=>none)
 |.next it isString=>(match k with|.next=>Ta (!isString) [it]|_=>none)
 |.entry it=>(match k with|.entry=>some [it]|_=>none)
 |.extract t i=>(match k with|.extract j=>Ta (Nat.beq i j) [t]|_=>none)
 |.call c=>Np P X k c
 |_=>none
def JA:AK->Option Nat
 |.alloc id _ _ _|.box id _ _|.buildSlice id _ _ _ _ _|.NJ id _|.mkMap id|.mkSlice id _ _ _ _|.rangeMap id|.append id _ _ _|.OG id _=>some id
 |_=>none
def pO(s:Nat)(μ:Mu)(st:St)(k:AK):Prop:=∀id,JA k=some id->μ (s+id)=none/\s+id<st.c/\st.lo<=s+id
def DJ(P:Program)(base:Nat)(w0:Start)(I:HY)(μ:Mu)(st:St)(w:World)(o:Option Nat)(e:Sem Next)(v:AV)(st':St):Prop:=
 ∃n rv w' ν,e.run P w=.ok n w'/\(n=.value rv∨(n=.skip/\rv=undef))/\ed base w0 I μ st o ν st' w' v rv
theorem DJ.ky{o:Option Nat}{e:Sem Value}{v:AV}{a:St}(h:UI P base w0 I μ st w o e v a):DJ P base w0 I μ st w o (do pure (.value (← e))) v a:=by obtain⟨b,c,ν,f,d⟩:=h;exact⟨.value b,b,c,ν,by simp[f,Result.andThen],.inl rfl,d⟩
theorem DJ.AAC(H:CQ base w0 I μ st w){o:Option Nat}{e:Sem Unit}{v:AV}{a:St}(b:v=.undef)(h:ABY P base w0 I μ st w e a):DJ P base w0 I μ st w o (do e;pure .skip) v a:=by obtain⟨c,g,d,i,f⟩:=h;subst b;exact⟨.skip,undef,c,μ,by simp[g,Result.andThen],.inr ⟨rfl,rfl⟩,d,.tuple [] [] .nil,fun _ _ h=>h,fun _ _=>rfl,i,f⟩
theorem DJ.stay(H:CQ base w0 I μ st w){o:Option Nat}{e:Sem Value}{v:AV}{a:St}(h:a=st/\∃rv,e.run P w=.ok rv w/\BO I μ v rv):DJ P base w0 I μ st w o (do pure (.value (← e))) v a:=by obtain⟨rfl,rv,c,b⟩:=h;exact DJ.ky (UI.stay H c b)
theorem DJ.pure(H:CQ base w0 I μ st w){o:Option Nat}{v:AV}{a:Value}(h:BO I μ v a):DJ P base w0 I μ st w o (Pure.pure (.value a)) v st:=
 ⟨.value a,a,w,μ,rfl,.inl rfl,H,h,fun _ _ h=>h,fun _ _=>rfl,rfl,rfl⟩
theorem eD(H:CQ base w0 I μ st w){o:Nat}{r:B}{v:AV}{a:St}(h:TP o r st=some (v,a))(b:μ o=none)(d:o<st.c) :
 ∃ob,r=some (v,ob)/\CQ base w0 I μ a w/\AA a.h o=some ob/\a.c=st.c/\a.lo=st.lo:=by
 unfold TP Fs at h;split at h
 ·rename_i l ob;split at h
  ·rename_i i k;cases h;obtain⟨g,e,j,f,_⟩:=Vo H k b d;exact⟨ob,rfl,g,e,j,f⟩
  ·cases h
 ·cases h
theorem DJ.born{a:St}{o:Nat}{e:Sem Next}{v:AV}(j:a.c=st.c)(d:a.lo=st.lo)(h:DJ P base w0 I μ a w (some o) e v a):DJ P base w0 I μ st w (some o) e v a:=by obtain⟨n,k,f,ν,i,g,b⟩:=h;exact⟨n,k,f,ν,i,g,b.rel,b.val,b.le,b.same,j,d⟩
end
end Go.Am
namespace Go.Am
open Go Go.RowKit
variable {P:Program}
section
variable {base:Nat}{w0:Start}{I:HY}{μ:Mu}{st:St}{w:World}
theorem bX{a b c d e c':Option Value}(h:a.toList++(b.toList++c.toList)=d.toList++(e.toList++c'.toList))(f:a.isSome=d.isSome)(g:b.isSome=e.isSome)(i:c.isSome=c'.isSome):a=d/\b=e/\c=c':=by cases a<;>cases d<;>cases b<;>cases e<;>cases c<;>cases c'<;>simp_all
theorem wY(ρ:Operand->Value)(a b c:Option Operand):(a.toList++(b.toList++c.toList)).map ρ=(a.map ρ).toList++((b.map ρ).toList++(c.map ρ).toList):=by cases a<;>cases b<;>cases c<;>rfl
theorem VS{ρ:Operand->Value}(a:Option Operand):(a.map ρ).isSome=a.isSome:=by cases a<;>rfl
theorem SA{t:TypeId}(h:isStr P t=true):P.underlying t=some .string:=by
 unfold isStr at h;split at h
 ·assumption
 ·cases h
theorem Yq{t:TypeId}{k:Option IntKind}(h:isInt P t k=true):∃j,P.underlying t=some (.int j)/\∀a,k=some a->j=a:=by
 unfold isInt at h;split at h
 ·rename_i j b;refine⟨j,b,fun a c=>?_⟩;subst c;exact LG h
 ·cases h
theorem yU(H:CQ base w0 I μ st w){s:Nat}{k:AK}{e b:TypeId}(a:KV P k e b=true){x v:AV}{i:Value}{c:St}(d:BO I μ x i)(f:pO s μ st k)(h:step s k [x] st=some (v,c)) :
 DJ P base w0 I μ st w ((JA k).map (s+·)) (do pure (.value (← convert e b i))) v c:=by
 cases k<;>simp only[KV]at a<;>first|(cases a;done)|skip
 case De j=>rw[Aq]at a;obtain⟨y,u,_⟩:=Yq a.1;obtain⟨A,q,r⟩:=Yq a.2;have:=r j rfl;subst this;exact DJ.stay H (oJ u q d h)
 case PR=>rw[Aq,FO]at a;exact DJ.stay H (oI (a.1.imp SA fun h=>(Yq h).imp fun _ h=>h.1) (SA a.2) d h)
 case NJ id ty=>obtain⟨l,g,z⟩:=f id rfl;obtain⟨ob,t,H1,o,m,p⟩:=eD H h l g;exact DJ.born m p (DJ.ky (ZJ H1 a d t o l (by rw[m];exact g)))
 case PS=>exact DJ.stay H (oK H a d h)
 case UO ty n=>exact DJ.stay H (vg H a d h)
theorem ABL(H:CQ base w0 I μ st w){s:Nat}{k:AK}{j:BinOp}{t:TypeId}{X Y:Operand}(a:Ms P k j t X Y=true){x y v:AV}{f g:Value}{b:St}(i:BO I μ x f)(c:BO I μ y g)(o:Option Nat)(h:step s k [x,y] st=some (v,b)) :
 DJ P base w0 I μ st w o (do pure (.value (← (do eqGuard j t X Y f g;Go.binOp j t f g:Sem Value)))) v b:=by
 cases k<;>simp only[Ms]at a<;>first|(cases a;done)|skip
 case bin op'=>
  simp only[Aw]at a;subst a;simp only[step,Ke,Ia]at h;split at h
  ·rename_i u e;cases h;exact DJ.stay H ⟨rfl,ADO i c e X Y⟩
  ·cases h
 case eq neg k=>
  simp only[Aq,Aw]at a;obtain⟨l,d⟩:=a;subst l;simp only[step,Ke,Ia]at h;split at h
  ·rename_i u e;cases h;exact DJ.stay H ⟨rfl,AFv d H i c e⟩
  ·cases h
 case XN neg ts=>simp only[Aq,Aw]at a;obtain⟨l,d⟩:=a;subst l;exact DJ.stay H (AAi d i c h)
theorem rP(H:CQ base w0 I μ st w){s:Nat}{k:AK}{t:TypeId}{l L m:Option Operand}(d:JH P k t l.isSome L.isSome m.isSome=true){ρ:Operand->Value}{x v:AV}{args:List AV}{Q:Value}{z:St}(N:BO I μ x Q)(i:BR I μ args ((l.toList++(L.toList++m.toList)).map ρ))(o:Option Nat)(h:step s k (x::args) st=some (v,z)) :
 DJ P base w0 I μ st w o (do pure (.value (← Instr.sliceAt t Q (l.map ρ) (L.map ρ) (m.map ρ)))) v z:=by
 rw[wY]at i;have conv:∀{b:Bool} {a:Option Operand} {r:Option Value},b=a.isSome->(b=true↔r.isSome=true)->r.isSome=(a.map ρ).isSome:=by intro b a r e f;rw[VS,←e];cases b<;>cases hr:r.isSome<;>simp_all
 cases k<;>simp only[JH]at d<;>first|(cases d;done)|skip
 case IP lo hi=>
  simp only[Aq,IJ,Fp]at d;obtain⟨⟨⟨e,f⟩,g⟩,J⟩:=d;have O:m=none:=by cases m<;>simp_all
  subst O;simp only[QR,Option.toList_none,Fh]at i;obtain⟨A,p,D,u,B,F,j⟩:=fQ (SA e) N i h;obtain⟨y,n,_⟩:=bX (c:=none) (c':=none) (by simpa using u.symm) (conv f B) (conv g F) rfl;subst y n;exact DJ.stay H ⟨A,j⟩
 case slice sz lo hi mx=>simp only[Aq,IJ,FO,Fp]at d;obtain⟨⟨⟨⟨e,f⟩,g⟩,J⟩,K⟩:=d;obtain⟨A,p,D,S,u,B,F,R,j⟩:=wI H e N i (by intro q;rw[J]at q;rw[g];rcases K with K|K<;>simp_all) h;obtain⟨y,n,T⟩:=bX u.symm (conv f B) (conv g F) (conv J R);subst y n T;exact DJ.stay H ⟨A,j⟩
 case Pq len sz lo hi=>
  simp only[Aq,IJ,Fp]at d;obtain⟨⟨⟨e,f⟩,g⟩,J⟩:=d;have O:m=none:=by cases m<;>simp_all
  subst O;simp only[QR,Option.toList_none,Fh]at i;obtain⟨A,p,D,u,B,F,j⟩:=fT H e N i h;obtain⟨y,n,_⟩:=bX (c:=none) (c':=none) (by simpa using u.symm) (conv f B) (conv g F) rfl;subst y n;exact DJ.stay H ⟨A,j⟩
theorem sQ{t:TypeId}(h:mh P t=true):∃d,P.underlying t=some d/\∀k,d≠.int k:=by
 unfold mh at h;split at h
 ·cases h
 ·rename_i d a b;exact⟨d,b,fun k e=>by subst e;exact a k rfl⟩
 ·cases h
theorem jl(H:CQ base w0 I μ st w){s:Nat}{k:AK}{b:Builtin}{r:List TypeId}(a:JW P k b r=true){args:List AV}{f:List Value}{v:AV}{l:St}(g:BR I μ args f)(m:pO s μ st k)(h:step s k args st=some (v,l))(F:TypeId)(B:Array Bool):DJ P base w0 I μ st w ((JA k).map (s+·)) (builtin b r.toArray F B f.toArray) v l:=by
 unfold JW at a;split at a
 ·rename_i t;cases k<;>simp at a;obtain⟨x,rfl,h⟩:=CU h;obtain⟨j,rfl,c⟩:=g.one;exact DJ.stay H (ACl H a c h)
 ·rename_i t;cases k<;>simp at a;obtain⟨x,rfl,h⟩:=CU h;obtain⟨j,rfl,c⟩:=g.one;split at a
  ·rename_i z;exact DJ.stay H (ADL z c h)
  ·cases a
 ·cases k<;>simp at a;exact DJ.stay H (ACg _ _ g h)
 ·cases k<;>simp at a;exact DJ.stay H (ACi _ _ g h)
 ·rename_i t u;cases k<;>simp at a
  ·rename_i id e J bytes;obtain⟨q,n,o⟩:=m id rfl;obtain⟨x,y,rfl,h⟩:=Cz h;obtain⟨j,p,rfl,c,i⟩:=g.two;obtain⟨d,D,A⟩:=sQ a.2;exact DJ.ky (vC H a.1 D A c i h q n o)
  ·rename_i id e;obtain⟨q,n,o⟩:=m id rfl;obtain⟨x,y,rfl,h⟩:=Cz h;obtain⟨j,p,rfl,c,i⟩:=g.two;exact DJ.ky (eO H a.1 (SA a.2) c i h q n o)
 ·rename_i t u;cases k<;>simp at a;obtain⟨x,y,rfl,h⟩:=Cz h;obtain⟨j,p,rfl,c,i⟩:=g.two;exact DJ.ky (AA6 H a c i h _)
 ·rename_i t;cases k<;>simp at a;split at a
  ·obtain⟨x,rfl,h⟩:=CU h;obtain⟨j,rfl,c⟩:=g.one;exact DJ.ky (yZ H a c h _)
  ·cases a
 ·cases k<;>simp at a;obtain⟨x,rfl,h⟩:=CU h;obtain⟨j,rfl,c⟩:=g.one;exact DJ.stay H (rC c h)
 ·rename_i t u;cases k<;>simp at a;obtain⟨x,y,rfl,h⟩:=Cz h;obtain⟨j,p,rfl,c,i⟩:=g.two;exact DJ.ky (fF H a c i h)
 ·cases a
end
end Go.Am
namespace Go.Am
open Go Go.RowKit
variable {P:Program}
def ko(P:Program)(X:Nat->Option Ext):Prop:=
 ∀f e,X f=some e->∀(args:Array Value) (w:World),(callFunc f args).run P w=((qK e args).run P w).andThen fun v w=>.ok (.value v) w
section
variable {base:Nat}{w0:Start}{I:HY}{μ:Mu}{st:St}{w:World}
theorem qX{l:List AV}{f:AV->B}{r:AV×BJ}(h:b1 l f=some r):∃x,l=[x]/\f x=some r:=by
 unfold b1 at h;split at h
 ·exact⟨_,rfl,h⟩
 ·cases h
theorem ABP{l:List AV}{f:AV->AV->B}{r:AV×BJ}(h:b2 l f=some r):∃x y,l=[x,y]/\f x y=some r:=by
 unfold b2 at h;split at h
 ·exact⟨_,_,rfl,h⟩
 ·cases h
theorem Jl(l:List Operand):Ta false l=none:=rfl
def IA:AK->Bool
 |.alloc ..|.box ..|.buildSlice ..|.NJ ..|.mkMap _|.mkSlice ..=>true
 |_=>false
theorem XR{k:AK}{b:Builtin}{c:List TypeId}(h:JW P k b c=true)(a:IA k=true):False:=by unfold JW at h;split at h<;>cases k<;>simp[IA]at a h
theorem KW{X:Nat->Option Ext}{k:AK}{c:Call}{b:List Operand}(h:Np P X k c=some b)(a:IA k=true):False:=by
 unfold Np at h;split at h
 ·exact XR (DL h).1 a
 ·cases k<;>simp[IA]at a h
 ·cases k<;>simp[IA]at a h
theorem jm(H:CQ base w0 I μ st w){X:Nat->Option Ext}{s id:Nat}{k:AK}{o:Oper}{F:List Operand}(a:UD P X k o.op=some F){ρ:Operand->Value}{args:List AV}(A:BR I μ args (F.map ρ)){v:AV}{ob:BJ}(d:born s k args=some (v,ob))(g:JA k=some id)(i:AA st.h (s+id)=some ob)(j:μ (s+id)=none)(q:s+id<st.c):DJ P base w0 I μ st w (some (s+id)) (execOp ρ o) v st:=by
 obtain⟨B,m,type,L,after,guard⟩:=o;simp only at a;cases k<;>simp only[JA]at g<;>first|(cases g;done)|skip
 all_goals (cases g)
 case alloc ty sz zero=>
  cases d;cases m<;>simp only[UD,Ms,KV,JH,Jc,Jl,reduceCtorEq]at a;case alloc e=>
   obtain⟨b,f⟩:=DL a;try simp only[Aq]at b
   have:=Cb b.1;subst this;exact DJ.ky (yx H b.2 i j q)
  case call c=>exact (KW a rfl).elim
 case box ty sz=>
  obtain⟨x,rfl,d⟩:=qX d;cases m<;>simp only[UD,Ms,KV,JH,Jc,Jl,reduceCtorEq]at a;case box e y=>
   obtain⟨b,f⟩:=DL a;try simp only[Aq]at b
   have:=Cb b;subst this;subst f;obtain⟨D,z,u⟩:=A.one;cases z;exact DJ.ky (ADM H u d i j q)
  case call c=>exact (KW a rfl).elim
 case buildSlice ty sz len zero offs=>
  cases m<;>simp only[UD,Ms,KV,JH,Jc,Jl,reduceCtorEq]at a;case buildSlice t n parts=>
   obtain⟨b,f⟩:=DL a;try simp only[Aq]at b
   have:=Cb b.1;subst this;subst f;have N:BR I μ args (parts.toList.map fun p=>ρ p.2):=by simpa [Mv,Lm]using A
   have:=aB (P:=P) H b.2 N d i j q;exact DJ.ky (by simpa using this)
  case call c=>exact (KW a rfl).elim
 case NJ ty=>
  obtain⟨x,rfl,d⟩:=qX d;cases m<;>simp only[UD,Ms,KV,JH,Jc,Jl,reduceCtorEq]at a;case convert src B y=>
   obtain⟨b,f⟩:=DL a;try simp only[Aq]at b
   subst f;obtain⟨D,z,u⟩:=A.one;cases z;exact DJ.ky (ZJ H b u d i j q)
  case call c=>exact (KW a rfl).elim
 case mkMap=>
  cases d;cases m<;>simp only[UD,Ms,KV,JH,Jc,Jl,reduceCtorEq]at a;case makeMap t r=>
   obtain⟨b,f⟩:=DL a;try simp only[Aq]at b
   have K:r=none:=by simpa using b
   subst K;exact DJ.ky (xG H i j q)
  case call c=>exact (KW a rfl).elim
 case mkSlice ty sz bytes zero=>
  obtain⟨x,y,rfl,d⟩:=ABP d;cases m<;>simp only[UD,Ms,KV,JH,Jc,Jl,reduceCtorEq]at a;case makeSlice t l c=>
   obtain⟨b,f⟩:=DL a;try simp only[Aq]at b
   subst f;obtain⟨D,O,z,u,J⟩:=A.two;cases z;exact DJ.ky (mr H b u J d i j q)
  case call c=>exact (KW a rfl).elim
 all_goals (cases d)
end
end Go.Am
namespace Go.Am
open Go Go.RowKit
variable {P:Program}
section
variable {base:Nat}{w0:Start}{I:HY}{μ:Mu}{st:St}{w:World}
theorem Vf{s:Nat}{k:AK}{args:List AV}(a:IA k=true):∃id,JA k=some id/\step s k args st=TP (s+id) (born s k args) st:=by cases k<;>simp[IA]at a<;>exact⟨_,rfl,rfl⟩
theorem gT{t:TypeId}(h:Yc P t=true):∃d,P.underlying t=some d/\∀c,d≠.interface c:=by
 unfold Yc at h;split at h
 ·cases h
 ·rename_i d a b;exact⟨d,b,fun k e=>by subst e;exact a k rfl⟩
 ·cases h
theorem dX{ρ:Operand->Value}{a:Option Tmp}{b:Builtin}{args:Array Operand}{d:Array TypeId}{type:TypeId}{c:String}{after:Array Edge}{g:Option (Nat×Bool)} :
 execOp ρ ⟨a,.call ⟨.builtin b,args,d⟩,type,c,after,g⟩=builtin b d type (args.map fun|.const _=>true|_=>false) (args.map ρ):=rfl
theorem ak{ρ:Operand->Value}{a:Option Tmp}{f:FuncId}{args:Array Operand}{c:Array TypeId}{type:TypeId}{b:String}{after:Array Edge}{g:Option (Nat×Bool)}(e:ρ (.func f)=.func (.func f) #[] #[])(w:World) :
 (execOp ρ ⟨a,.call ⟨.value (.func f),args,c⟩,type,b,after,g⟩).run P w=(callFunc f (args.map ρ)).run P w:=by
 have:execOp ρ ⟨a,.call ⟨.value (.func f),args,c⟩,type,b,after,g⟩=(do let d ← Deferred.ofValue (ρ (.func f)) (args.map ρ);invoke d.target d.args):=rfl;rw[this,e];simp[Deferred.ofValue,invoke]
theorem yj(H:CQ base w0 I μ st w){X:Nat->Option Ext}(A:ko P X){s:Nat}{k:AK}{c:Call}{x:List Operand}(d:Np P X k c=some x){ρ:Operand->Value}(F:∀f,ρ (.func f)=.func (.func f) #[] #[]){args:List AV}(u:BR I μ args (x.map ρ)){v:AV}{g:St}(p:pO s μ st k)(h:step s k args st=some (v,g))(i:Option Tmp)(type:TypeId)(r:String)(after:Array Edge)(guard:Option (Nat×Bool)) :
 DJ P base w0 I μ st w ((JA k).map (s+·)) (execOp ρ ⟨i,.call c,type,r,after,guard⟩) v g:=by
 obtain⟨callee,a,K⟩:=c;unfold Np at d;split at d
 ·rename_i b t;simp only at t d;subst t;obtain⟨q,l⟩:=DL d;subst l;rw[dX];have:=jl (P:=P) H q u p h type (a.map fun|.const _=>true|_=>false);have o:(a.toList.map ρ).toArray=a.map ρ:=by apply Ld;simp
  rw[o]at this;exact this
 ·split at d
  ·simp only[step]at h;cases h
  ·cases d
 ·rename_i f z;simp only at z;subst z;split at d
  ·simp only[step]at h;cases h
  ·rename_i j;split at d
   ·rename_i f;split at d
    ·rename_i e D;obtain⟨q,l⟩:=DL d;subst l;have m:j=e:=by cases j<;>cases e<;>simp at q<;>rfl
     subst m;obtain⟨B,y,n,J⟩:=ADH (P:=P) (w:=w) u h;subst B;refine⟨.value y,y,w,μ,?_,.inl rfl,H,J,fun _ _ h=>h,fun _ _=>rfl,rfl,rfl⟩;rw[ak (F f),A f j D];simp only[List.map_toArray]at n;have o:(a.toList.map ρ).toArray=a.map ρ:=by apply Ld;simp
     rw[o]at n;rw[n];rfl
    ·cases d
   ·cases d
  ·simp only[step]at h;cases h
  ·cases d
theorem fH(H:CQ base w0 I μ st w){X:Nat->Option Ext}(hX:ko P X){s:Nat}{k:AK}{o:Oper}{os:List Operand}(e:UD P X k o.op=some os){ρ:Operand->Value}(hρ:∀f,ρ (.func f)=.func (.func f) #[] #[]){args:List AV}(r:BR I μ args (os.map ρ)){v:AV}{J:St}(K:pO s μ st k)(h:step s k args st=some (v,J)):DJ P base w0 I μ st w ((JA k).map (s+·)) (execOp ρ o) v J:=by
 cases hb:IA k with
 |true=>obtain⟨id,j,q⟩:=Vf (st:=st) (s:=s) (args:=args) hb;rw[q]at h;obtain⟨S,R,i3⟩:=K id j;obtain⟨ob,g1,H1,hf,hc,N⟩:=eD H h S R;have:=jm (o:=o) H1 e r g1 j hf S (by rw[hc];exact R);rw[j];exact DJ.born hc N this
 |false=>
 obtain⟨U,T,type,Z,after,guard⟩:=o;simp only at e;cases T<;>simp only[UD,reduceCtorEq]at e;case move x=>split at e<;>cases e;obtain⟨x,rfl,h⟩:=CU h;obtain⟨A,g,n⟩:=r.one;cases g;cases h;exact DJ.pure H n
 case assign x=>split at e<;>cases e;obtain⟨x,rfl,h⟩:=CU h;obtain⟨A,g,n⟩:=r.one;cases g;cases h;exact DJ.pure H n
 case pick c a b=>split at e<;>cases e;obtain⟨x,y,z,rfl,h⟩:=KD h;obtain⟨A,F,Y,g,n,B,L⟩:=r.three;cases g;obtain⟨g,t,D,e3⟩:=AAJ n B L h;subst g;refine⟨.value (if t then ρ a else ρ b),_,w,μ,?_,.inl rfl,H,e3,fun _ _ h=>h,fun _ _=>rfl,rfl,rfl⟩;simp[execOp,D,asBool]
 case alloc=>split at e<;>first|(cases e;done)|(simp[IA]at hb)
 case box=>split at e<;>first|(cases e;done)|(simp[IA]at hb)
 case buildSlice=>split at e<;>first|(cases e;done)|(simp[IA]at hb)
 case makeMap=>split at e<;>first|(cases e;done)|(simp[IA]at hb)
 case makeSlice=>split at e<;>first|(cases e;done)|(simp[IA]at hb)
 case build t parts=>
  split at e
  ·rename_i zero places;obtain⟨j,q⟩:=DL e;subst q;simp only[step,Ia]at h;split at h
   ·rename_i u Q;cases h;obtain⟨cs,g,D⟩:=Gf.1 Q;subst D;have hv:BR I μ args (parts.toList.map fun p=>ρ p.2):=by simpa [Mv,Lm]using r
    have:=ym (P:=P) (w:=w) j hv g;exact DJ.stay H ⟨rfl,by simpa using this⟩
   ·cases h
  ·cases e
 case load t a=>
  split at e
  ·obtain⟨j,q⟩:=DL e;subst q;obtain⟨x,rfl,h⟩:=CU h;obtain⟨A,g,n⟩:=r.one;cases g;have h:Ia st (LB st.h _ x)=some (v,J):=h;unfold Ia at h;split at h
   ·rename_i u Q;cases h;exact DJ.stay H ⟨rfl,qD H j n Q⟩
   ·cases h
  ·cases e
 case store t a x=>
  split at e
  ·obtain⟨j,q⟩:=DL e;subst q;obtain⟨x,y,rfl,h⟩:=Cz h;obtain⟨A,F,g,n,B⟩:=r.two;cases g;obtain⟨g,D⟩:=wB H (by simpa using j) n B h;exact DJ.AAC H g D
  ·cases e
 case nilCheck x=>split at e<;>cases e;obtain⟨y,rfl,h⟩:=CU h;obtain⟨A,g,n⟩:=r.one;cases g;obtain⟨g,D,e3⟩:=gU n h;subst g D;refine⟨.value (ρ x),_,w,μ,?_,.inl rfl,H,n,fun _ _ h=>h,fun _ _=>rfl,rfl,rfl⟩;rcases e3 with⟨a,O⟩|⟨f,a,b,O⟩<;>simp[execOp,O]
 case binOp T t x y yt=>
  obtain⟨j,q⟩:=DL e;subst q;have:∃a b,args=[a,b]:=by
   have N:=r.length;simp at N;match args,N with
   |[a,b],_=>exact⟨a,b,rfl⟩
  obtain⟨a,b,rfl⟩:=this;obtain⟨A,F,g,n,B⟩:=r.two;cases g;exact ABL H j n B _ h
 case unOp T t x=>
  split at e
  ·obtain⟨j,q⟩:=DL e;subst q;simp only[Aw]at j;subst j;obtain⟨y,rfl,h⟩:=CU h;obtain⟨A,g,n⟩:=r.one;cases g;have h:Ia st (un T y)=some (v,J):=h;unfold Ia at h;split at h
   ·rename_i u Q;cases h;exact DJ.stay H ⟨rfl,AD5 n Q⟩
   ·cases h
  ·cases e
 case convert src dst' x=>
  obtain⟨j,q⟩:=DL e;subst q;have:∃a,args=[a]:=by
   have N:=r.length;simp at N;match args,N with
   |[a],_=>exact⟨a,rfl⟩
  obtain⟨a,rfl⟩:=this;obtain⟨A,g,n⟩:=r.one;cases g;exact yU H j n K h
 case makeInterface t x=>
  split at e
  ·obtain⟨j,q⟩:=DL e;subst q;rw[Aq]at j;have:=Cb j.1;subst this;obtain⟨d,d1,d2⟩:=gT j.2;obtain⟨y,rfl,h⟩:=CU h;obtain⟨A,g,n⟩:=r.one;cases g;cases h;exact DJ.stay H ⟨rfl,mE d1 d2 n⟩
  ·cases e
 case makeFunc f first captured=>
  split at e
  ·obtain⟨j,q⟩:=DL e;subst q;simp only[Aq,Aw]at j;have:=Cb j.2;obtain⟨g,_⟩:=j;subst g this;simp only[step]at h;cases h;rw[Hf]at r;have V:=AAU (P:=P) (w:=w) (f:=f) r;have e4:(first.toList.map ρ).toArray=first.map ρ:=by apply Ld;simp
   have e5:(captured.toList.map ρ).toArray=captured.map ρ:=by apply Ld;simp
   rw[e4,e5]at V;refine DJ.stay H ⟨rfl,_,V.1,?_⟩;simpa using V.2
  ·cases e
 case slice t x l hh m=>
  obtain⟨j,q⟩:=DL e;subst q;cases r with
  |cons y A W rl n r=>
  exact rP H j n r _ h
 case fieldAddr t x f=>
  split at e
  ·obtain⟨j,q⟩:=DL e;subst q;obtain⟨y,rfl,h⟩:=CU h;obtain⟨A,g,n⟩:=r.one;cases g;exact DJ.stay H (dW j n h)
  ·cases e
 case field t x f=>
  split at e
  ·obtain⟨j,q⟩:=DL e;subst q;obtain⟨y,rfl,h⟩:=CU h;obtain⟨A,g,n⟩:=r.one;cases g;exact DJ.stay H (yP j n h)
  ·cases e
 case indexAddr t x i=>
  obtain⟨j,q⟩:=DL e;subst q;cases k<;>simp only[Jc,GA]at j
  ·obtain⟨x,y,rfl,h⟩:=Cz h;obtain⟨A,F,g,n,B⟩:=r.two;cases g;exact DJ.stay H (dK H j n B h)
  ·obtain⟨x,y,rfl,h⟩:=Cz h;obtain⟨A,F,g,n,B⟩:=r.two;cases g;exact DJ.stay H (il j n B h)
 case index t x i=>
  split at e
  ·obtain⟨j,q⟩:=DL e;subst q;obtain⟨x,y,rfl,h⟩:=Cz h;obtain⟨A,F,g,n,B⟩:=r.two;cases g;exact DJ.stay H (ik (SA j) n B h)
  ·cases e
 case lookup t x i ok=>
  split at e
  ·obtain⟨j,q⟩:=DL e;subst q;simp only[Aq,IJ]at j;obtain⟨j,h3⟩:=j;subst h3;obtain⟨x,y,rfl,h⟩:=Cz h;obtain⟨A,F,g,n,B⟩:=r.two;cases g;exact DJ.stay H (tK H j n B h)
  ·cases e
 case mapUpdate t m i x=>
  split at e
  ·obtain⟨j,q⟩:=DL e;subst q;obtain⟨x,y,z,rfl,h⟩:=KD h;obtain⟨A,F,Y,g,n,B,L⟩:=r.three;cases g;obtain⟨g,D⟩:=Uh H j n B L h;exact DJ.AAC H g D
  ·cases e
 case insert t m i x=>
  split at e
  ·obtain⟨j,q⟩:=DL e;subst q;obtain⟨x,y,z,rfl,h⟩:=KD h;obtain⟨A,F,Y,g,n,B,L⟩:=r.three;cases g;obtain⟨g,D⟩:=Uh H j n B L h;exact DJ.AAC H g D
  ·cases e
 case mapEntry t m i=>
  split at e
  ·obtain⟨j,q⟩:=DL e;subst q;obtain⟨x,y,rfl,h⟩:=Cz h;obtain⟨A,F,g,n,B⟩:=r.two;cases g;exact DJ.ky (gy H j n B h)
  ·cases e
 case entryStore t m i x=>split at e<;>cases e;obtain⟨x,y,z,rfl,h⟩:=KD h;obtain⟨A,F,Y,g,n,B,L⟩:=r.three;cases g;obtain⟨g,D⟩:=Zv (t:=t) H n B L h;exact DJ.AAC H g D
 case range t x=>
  split at e
  ·rename_i id;obtain⟨j,q⟩:=DL e;subst q;obtain⟨S,R,i3⟩:=K id rfl;obtain⟨y,rfl,h⟩:=CU h;obtain⟨A,g,n⟩:=r.one;cases g;exact DJ.ky (gD H j n h S R)
  ·cases e
 case next it isStr=>
  split at e
  ·simp only[step]at h;cases h
  ·cases e
 case entry it=>split at e<;>cases e;obtain⟨y,rfl,h⟩:=CU h;obtain⟨A,g,n⟩:=r.one;cases g;exact DJ.stay H (yS H n h)
 case extract t i=>
  split at e
  ·obtain⟨j,q⟩:=DL e;subst q;have:=Cb j;subst this;obtain⟨y,rfl,h⟩:=CU h;obtain⟨A,g,n⟩:=r.one;cases g;exact DJ.stay H (ny n h)
  ·cases e
 case call c=>exact yj H hX e hρ r K h U type Z after guard
end
end Go.Am
namespace Go.Am
open Go Go.RowKit
def AV.CL:AV->Option Nat
 |.AL o _|.AU o _ _ _|.Cq o=>some o
 |_=>none
theorem vv{I:HY}{μ:Mu}{v:AV}{b:Value}(h:BO I μ v b){o:Nat}(a:v.CL=some o):∃c,μ o=some c:=by cases h<;>simp[AV.CL]at a<;>subst a<;>exact⟨_,by assumption⟩
def Kept(st st':St)(S:Nat->Prop):Prop:=∀p,¬S p->AA st'.h p=AA st.h p
theorem Kept.refl(a:St)(S:Nat->Prop):Kept a a S:=fun _ _=>rfl
theorem Kept.trans{a b c:St}{S:Nat->Prop}(h:Kept a b S)(k:Kept b c S):Kept a c S:=fun p d=>(k p d).trans (h p d)
theorem Kept.mono{a b:St}{S T:Nat->Prop}(h:Kept a b S)(d:∀p,S p->T p):Kept a b T:=fun p c=>h p fun q=>c (d p q)
theorem JX{c a:St}{o b:Nat}{f:List AV}(h:CO c o b f=some a):Kept c a (·=o):=by
 unfold CO at h;rw[Ad]at h;split at h
 ·cases h
 split at h
 ·rename_i e;rw[Ad]at h;split at h
  ·cases h;intro p d;simp only at d;show AA (Ah c.h o _) p=_;rw[JU _ _ _ (by rw[e];rfl),AJ (Aj d)]
  ·cases h
 ·cases h
theorem PG{c b:St}{o:Nat}{ob:BJ}(h:BA o ob c=some b):Kept c b (·=o):=by
 unfold BA at h;split at h
 ·rename_i e d;cases h;intro p a;simp only at a;show AA e p=_;rw[LD d,AJ (Aj a)]
 ·cases h
theorem QI{a:St}{o:Nat}{x y:BJ}(c:AA a.h o=some x):Kept a { a with h:=Ah a.h o y } (·=o):=by intro p b;simp only at b;show AA (Ah a.h o _) p=_;rw[JU _ _ _ (by rw[c];rfl),AJ (Aj b)]
theorem af{a:St}{o:Nat}:Kept a { a with h:=Jv a.h o } (·=o):=by intro p b;simp only at b;show AA (Jv a.h o) p=_;rw[Gz,AJ (Aj b)]
theorem Su{b a:St}{o f c bytes len n:Nat}{d:List AV}{v:AV}(h:grow o f c bytes len n d b=some (v,a)):Kept b a (·=o):=by
 unfold grow at h;rw[Ad]at h;split at h
 ·split at h
  ·rename_i e;cases h;exact PG e
  ·cases h
 ·cases h
theorem QN{d c:St}{o j g bytes n:Nat}{x v:AV}{f:List AV}(h:CX o j g bytes x n f d=some (v,c)):Kept d c (fun p=>p=o∨x.CL=some p):=by
 unfold CX at h;simp only[Ad]at h;split at h
 ·cases h
 split at h
 ·split at h
  ·cases h;exact Kept.refl _ _
  ·exact (Su h).mono fun p a=>.inl a
 ·split at h
  ·cases h;exact Kept.refl _ _
  ·split at h
   ·exact (Su h).mono fun p a=>.inl a
   ·cases h
 ·rename_i k i len cap;split at h
  ·cases h;exact Kept.refl _ _
  ·unfold GG at h;split at h
   ·simp only[Ad]at h;split at h
    ·split at h
     ·split at h
      ·split at h
       ·rename_i e;cases h;exact (JX e).mono fun p a=>.inr (by rw[a];rfl)
       ·cases h
      ·exact (Su h).mono fun p a=>.inl a
     ·split at h
      ·split at h
       ·rename_i e;cases h;exact (JX e).mono fun p a=>.inr (by rw[a];rfl)
       ·cases h
      ·split at h
       ·refine Kept.trans (b:={ d with h:=Jv d.h k }) ?_ ((Su h).mono fun p a=>.inl a);exact af.mono fun p a=>.inr (by rw[a];rfl)
       ·cases h
    ·cases h
   ·cases h
 ·cases h
def Hit(s:Nat)(k:AK)(args:List AV)(p:Nat):Prop:=(JA k).map (s+·)=some p∨∃x∈args,x.CL=some p
theorem bC{b a:St}{o:Nat}{r:B}{v:AV}(h:TP o r b=some (v,a)):Kept b a (·=o):=by
 unfold TP Fs at h;split at h
 ·split at h
  ·rename_i c;cases h;exact PG c
  ·cases h
 ·cases h
def JS:AK->Bool
 |.move|.pick|.build ..|.load _|.nilCheck|.bin _|.eq ..|.XN ..|.un _|.De _|.PR|.PS|.GN _|.Nk ..|.IP ..|.slice ..|.Pq ..|.fieldAddr _|.field ..|.indexAddr _
 |.KC ..|.Fw|.lookup ..|.entry|.extract _|.len _|.cap|.min|.max|.UO ..|.Rk|.ext _=>true
 |_=>false
theorem Tn{s:Nat}{k:AK}{args:List AV}{c b:St}{v:AV}(l:JS k=true)(h:step s k args c=some (v,b)):b=c:=by
 have a:∀{x:Option AV},Ia c x=some (v,b)->b=c:=fun {x} h=>by
  unfold Ia at h;split at h
  ·cases h;rfl
  ·cases h
 cases k<;>simp[JS]at l<;>simp only[step]at h;case move=>obtain⟨x,_,g⟩:=CU h;cases g;rfl
 case pick=>obtain⟨x,y,z,_,g⟩:=KD h;unfold Rq at g;split at g<;>cases g;rfl
 case build=>exact a h
 case load=>obtain⟨x,_,g⟩:=CU h;exact a g
 case nilCheck=>obtain⟨x,_,g⟩:=CU h;unfold DT at g;split at g<;>cases g<;>rfl
 case bin=>obtain⟨x,y,_,g⟩:=Cz h;exact a g
 case eq=>obtain⟨x,y,_,g⟩:=Cz h;exact a g
 case XN=>
  obtain⟨x,y,_,g⟩:=Cz h;unfold YU at g;split at g
  ·split at g<;>cases g;rfl
  ·split at g
   ·cases g;rfl
   ·rw[Ad]at g;split at g
    ·split at g
     ·split at g<;>cases g;rfl
     ·cases g
    ·cases g;rfl
   ·cases g
  ·cases g
 case un=>obtain⟨x,_,g⟩:=CU h;exact a g
 case De=>obtain⟨x,_,g⟩:=CU h;unfold Mi at g;split at g<;>cases g;rfl
 case PR=>
  obtain⟨x,_,g⟩:=CU h;unfold LQ at g;split at g
  ·cases g;rfl
  ·split at g<;>cases g;rfl
  ·cases g
 case PS=>
  obtain⟨x,_,g⟩:=CU h;unfold Nv at g;split at g
  ·cases g
  ·split at g
   ·split at g
    ·exact a g
    ·cases g
   ·cases g
 case GN=>obtain⟨x,_,g⟩:=CU h;cases g;rfl
 case Nk=>cases h;rfl
 case IP=>
  unfold Kz at h;split at h
  ·split at h
   ·split at h
    ·rw[Ad]at h;split at h<;>cases h;rfl
    ·cases h
   ·cases h
  ·cases h
 case slice=>
  unfold DW at h;split at h
  ·split at h
   ·split at h
    ·split at h
     ·exact a h
     ·cases h
    ·cases h
   ·cases h
  ·cases h
 case Pq=>
  unfold Mg at h;split at h
  ·split at h
   ·split at h
    ·split at h
     ·rw[Ad]at h;split at h<;>cases h;rfl
     ·cases h
    ·cases h
   ·cases h
  ·cases h
 case fieldAddr=>obtain⟨x,_,g⟩:=CU h;unfold Cx at g;split at g<;>cases g<;>rfl
 case field=>
  obtain⟨x,_,g⟩:=CU h;unfold Sk at g;split at g
  ·split at g
   ·rw[Ad]at g;split at g<;>cases g;rfl
   ·exact a g
  ·cases g
 case indexAddr=>
  obtain⟨x,y,_,g⟩:=Cz h;unfold AY at g;split at g
  ·split at g
   ·rw[Ad]at g;split at g
    ·split at g<;>cases g;rfl
    ·cases g
   ·split at g
    ·rw[Ad]at g;split at g<;>cases g;rfl
    ·cases g
   ·cases g
  ·cases g
 case KC=>
  obtain⟨x,y,_,g⟩:=Cz h;unfold Mh at g;split at g
  ·rw[Ad]at g;split at g
   ·split at g<;>cases g<;>rfl
   ·cases g
  ·cases g
 case Fw=>
  obtain⟨x,y,_,g⟩:=Cz h;unfold IQ at g;split at g
  ·split at g
   ·split at g<;>cases g;rfl
   ·cases g
  ·cases g
 case lookup=>
  obtain⟨x,y,_,g⟩:=Cz h;have key:∀{j zero d f i k},LA j zero d f i k c=some (v,b)->b=c:=by
   intro j zero d f i k q;unfold LA MJ at q;rw[Ad]at q;split at q
   ·split at q
    ·cases q;rfl
    ·split at q<;>cases q;rfl
    ·cases q
   ·cases q
  unfold FT at g;split at g
  ·exact key g
  ·split at g
   ·exact key g
   ·cases g
  ·exact key g
  ·cases g
 case entry=>
  obtain⟨x,_,g⟩:=CU h;unfold NH at g;split at g
  ·split at g
   ·split at g
    ·rw[Ad]at g;split at g
     ·split at g
      ·split at g
       ·split at g<;>cases g;rfl
       ·cases g
      ·cases g
     ·cases g
    ·cases g
   ·cases g
  ·cases g
 case extract=>obtain⟨x,_,g⟩:=CU h;unfold LP at g;split at g;exact a g;cases g
 case len=>obtain⟨x,_,g⟩:=CU h;unfold BZ at g;split at g<;>cases g;rfl
 case cap=>obtain⟨x,_,g⟩:=CU h;unfold TV at g;split at g<;>cases g<;>rfl
 case min=>unfold Ub at h;split at h;exact a h;cases h
 case max=>unfold TU at h;split at h;exact a h;cases h
 case UO=>
  obtain⟨x,_,g⟩:=CU h;unfold Oy at g;split at g
  ·cases g;rfl
  ·split at g
   ·rw[Ad]at g;split at g<;>cases g;rfl
   ·cases g
  ·cases g
 case Rk=>
  obtain⟨x,_,g⟩:=CU h;unfold Kk at g;split at g
  ·cases g;rfl
  ·rw[Ad]at g;split at g<;>cases g;rfl
  ·cases g
 case ext e=>
  cases e
  ·obtain⟨x,_,g⟩:=CU h;cases g;rfl
  ·obtain⟨x,y,_,g⟩:=Cz h;unfold LJ at g;split at g
   ·split at g<;>cases g;rfl
   ·cases g
  ·obtain⟨x,y,_,g⟩:=Cz h;unfold LU at g;split at g
   ·split at g<;>cases g;rfl
   ·cases g
theorem rJ{s:Nat}{k:AK}{args:List AV}{st d:St}{v:AV}(h:step s k args st=some (v,d)):Kept st d (Hit s k args):=by
 cases hq:JS k with
 |true=>rw[Tn hq h];exact Kept.refl _ _
 |false=>
 cases hb:IA k with
 |true=>obtain⟨id,l,j⟩:=Vf (st:=st) (s:=s) (args:=args) hb;rw[j]at h;exact (bC h).mono fun p a=>.inl (by rw[l,a];rfl)
 |false=>
 cases k<;>simp[JS]at hq<;>simp[IA]at hb<;>simp only[step]at h;case fail=>cases h
 case store=>
  obtain⟨x,y,e,g⟩:=Cz h;subst e;unfold BM at g;split at g
  ·rename_i o i;rw[Ad]at g;split at g
   ·cases g
   ·unfold Fs at g;split at g
    ·rename_i c;cases g;exact (JX c).mono fun p a=>.inr ⟨_,DN ..,by rw[a];rfl⟩
    ·cases g
  ·cases g
 case mapUpdate=>
  obtain⟨x,y,z,e,g⟩:=KD h;subst e;unfold FL at g;split at g
  ·rw[Ad]at g;split at g
   ·cases g
   ·split at g
    ·rename_i b;split at g
     ·cases g;exact (QI b).mono fun p a=>.inr ⟨_,DN ..,by rw[a];rfl⟩
     ·cases g;exact (QI b).mono fun p a=>.inr ⟨_,DN ..,by rw[a];rfl⟩
     ·cases g
    ·cases g
  ·cases g
 case mapEntry=>
  obtain⟨x,y,e,g⟩:=Cz h;subst e;unfold Ir at g;split at g
  ·rw[Ad]at g;split at g
   ·cases g
   ·split at g
    ·rename_i b;split at g
     ·split at g
      ·cases g;exact Kept.refl _ _
      ·cases g
     ·cases g;exact (QI b).mono fun p a=>.inr ⟨_,DN ..,by rw[a];rfl⟩
     ·cases g
    ·cases g
  ·cases g
 case entryStore=>
  obtain⟨x,y,z,e,g⟩:=KD h;subst e;unfold Ha at g;split at g
  ·split at g
   ·rw[Ad]at g;split at g
    ·cases g
    ·split at g
     ·rename_i b;split at g
      ·cases g;exact (QI b).mono fun p a=>.inr ⟨_,DN ..,by rw[a];rfl⟩
      ·cases g
     ·cases g
   ·cases g
  ·cases g
 case rangeMap=>
  obtain⟨x,e,g⟩:=CU h;subst e;unfold KE Fs at g;split at g
  ·split at g
   ·rename_i f;cases g;exact (PG f).mono fun p a=>.inl (by rw[a];rfl)
   ·cases g
  ·split at g
   ·split at g
    ·rename_i f;cases g;exact (PG f).mono fun p a=>.inl (by rw[a];rfl)
    ·cases g
   ·cases g
  ·cases g
 case next=>cases h
 case append=>
  obtain⟨x,y,e,g⟩:=Cz h;subst e;unfold Bq at g;split at g
  ·cases g
  ·split at g
   ·split at g
    ·refine (QN g).mono fun p a=>?_;rcases a with a|a
     ·exact .inl (by rw[a];rfl)
     ·exact .inr ⟨_,DN ..,a⟩
    ·cases g
   ·cases g
 case OG=>
  obtain⟨x,y,e,g⟩:=Cz h;subst e;unfold NN at g;split at g
  ·refine (QN g).mono fun p a=>?_;rcases a with a|a
   ·exact .inl (by rw[a];rfl)
   ·exact .inr ⟨_,DN ..,a⟩
  ·cases g
 case copy=>
  obtain⟨x,y,e,g⟩:=Cz h;subst e;unfold Qm Fs at g;split at g
  ·cases g
  ·split at g
   ·split at g
    ·cases g;exact Kept.refl _ _
    ·split at g
     ·rw[Ad]at g;split at g
      ·cases g;exact Kept.refl _ _
      ·split at g
       ·rw[Ad]at g;split at g
        ·split at g
         ·rename_i c;cases g;exact (JX c).mono fun p a=>.inr ⟨_,DN ..,by rw[a];rfl⟩
         ·cases g
        ·cases g
       ·cases g
     ·cases g
    ·cases g
   ·cases g
 case clear=>
  obtain⟨x,e,g⟩:=CU h;subst e;unfold Lu Fs at g;split at g
  ·cases g;exact Kept.refl _ _
  ·rw[Ad]at g;split at g
   ·cases g;exact Kept.refl _ _
   ·split at g
    ·rw[Ad]at g;split at g
     ·split at g
      ·rename_i c;cases g;exact (JX c).mono fun p a=>.inr ⟨_,DN ..,by rw[a];rfl⟩
      ·cases g
     ·cases g
    ·cases g
  ·cases g
 case Pn=>
  obtain⟨x,y,e,g⟩:=Cz h;subst e;unfold Ky at g;split at g
  ·rw[Ad]at g;split at g
   ·split at g<;>cases g<;>exact Kept.refl _ _
   ·split at g
    ·rw[Ad]at g;split at g
     ·cases g
     ·split at g
      ·rw[Ad]at g;split at g
       ·split at g
        ·cases g;exact af.mono fun p a=>.inr ⟨_,DN ..,by rw[a];rfl⟩
        ·cases g
       ·cases g
      ·cases g
    ·cases g
  ·cases g
 case call=>cases h
 case Ko=>cases h
 case invoke=>cases h
end Go.Am
namespace Go.Am
open Go Go.RowKit
variable {P:Program}
namespace M
variable {α β:Type}
theorem all_bind{m:M α}{f:α->M β}{Q:β->Prop}:(m.bind f).all Q↔m.all fun a=>(f a).all Q:=by
 induction m with
 |ret a=>exact Iff.rfl
 |fail=>exact Iff.rfl
 |ask n k c=>exact⟨fun h i b=>(c i).1 (h i b),fun h i b=>(c i).2 (h i b)⟩
theorem Sa{m:M α}{Q R:α->Prop}(h:m.all Q)(b:∀a,Q a->R a):m.all R:=by
 induction m with
 |ret a=>exact b a h
 |fail=>exact h
 |ask n k c=>exact fun i d=>c i (h i d)
theorem Sy{x:Option α}{Q:α->Prop}(h:(M.FM x).all Q):∃a,x=some a/\Q a:=by
 cases x with
 |none=>exact h.elim
 |some a=>exact⟨a,rfl,h⟩
end M
structure Nx (I:HY)(μ:Mu)(st:St)(S:Nat->Prop)(J:HY)(ν:Mu)(st':St):Prop where
 PM:I.le J
 le:μ.le ν
 same:∀p,p<st.c->¬S p->ν p=μ p
 c:st.c<=st'.c
 lo:st'.lo=st.lo
 kept:∀p,p<st.c->¬S p->μ p=none->AA st'.h p=AA st.h p
theorem Nx.refl(I:HY)(μ:Mu)(st:St)(S:Nat->Prop):Nx I μ st S I μ st:=
 ⟨HY.le_refl I,fun _ _ h=>h,fun _ _ _=>rfl,Nat.le_refl _,rfl,fun _ _ _ _=>rfl⟩
theorem Nx.trans{I J K:HY}{μ ν ξ:Mu}{st d e:St}{S T:Nat->Prop}(h:Nx I μ st S J ν d)(k:Nx J ν d T K ξ e)(g:∀p,p<st.c->T p->S p):Nx I μ st S K ξ e:=
 ⟨HY.le_trans h.PM k.PM,fun p x i=>k.le p x (h.le p x i),
  fun p a b=>(k.same p (Nat.lt_of_lt_of_le a h.c) fun t=>b (g p a t)).trans (h.same p a b),
  Nat.le_trans h.c k.c,k.lo.trans h.lo,
  fun p a b f=>(k.kept p (Nat.lt_of_lt_of_le a h.c) (fun t=>b (g p a t)) ((h.same p a b).trans f)).trans (h.kept p a b f)⟩
theorem Nx.mono{I J:HY}{μ ν:Mu}{st b:St}{S T:Nat->Prop}(h:Nx I μ st S J ν b)(e:∀p,p<st.c->S p->T p):Nx I μ st T J ν b:=
 ⟨h.PM,h.le,fun p a d=>h.same p a fun t=>d (e p a t),h.c,h.lo,fun p a d=>h.kept p a fun t=>d (e p a t)⟩
def Ht(GT:Nat->Option AV)(I:HY):Prop:=∀g u,GT g=some u->(u=.tuple []->∃m,I.cell g 0=some (.int .i64 m))/\(u.isTuple=false->∀μ,BO I μ u (.pointer (some ⟨g,0,none⟩)))/\∀cs,u=.tuple cs->cs≠[]->∃ty fz rvs,I.map g=some (.cells rvs ty fz)/\∀μ,BR I μ cs rvs.toList
def MU(P:Program)(GT:Nat->Option AV)(call:Nat->List AV->St->M (AV×St)):Prop:=
 ∀(f:Nat) (args:List AV) (st:St) (Q:AV×St->Prop),(call f args st).all Q->∀(base:Nat) (w0:Start) (I:HY) (μ:Mu) (w:World) (rargs:List Value),CQ base w0 I μ st w->st.lo<=st.c->Ht GT I->BR I μ args rargs ->
  (∀W,(callFunc f rargs.toArray).run P W=.ok (.enter f rargs.toArray) W) /\
  Calls P f rargs.toArray w fun e w'=>∃rv v st' J ν,e=.returned rv/\Q (v,st')/\CQ base w0 J ν st' w'/\BO J ν v rv/\Nx I μ st (fun _=>False) J ν st'
def pM(P:Program)(E:Env):Prop:=
 ∀t name f,E.AAV t name=some f->∀(v:Value) (w:World),(method (P.types.size+Made.depth) t v name).run P w=.ok (f,v) w
def ek(P:Program)(o:Oper)(a:Act)(w:World)(R:Value->World->Prop):Prop:=
 ∀(K:Act->World->Prop) (Q:Exit->Act->World->Prop),(∀rv w',R rv w'->K (a.put o.dst rv) w')->o.wp P a w K Q
section
variable {base:Nat}{w0:Start}{I:HY}{μ:Mu}{st:St}{w:World}
theorem ek.ABo{o:Oper}{a:Act}{v:AV}{b:St}{so:Option Nat}{S:Nat->Prop}(m:∀p,so=some p->S p)(d:Kept st b fun p=>S p∨∃l,μ p=some l)(h:DJ P base w0 I μ st w so (execOp a.eval o) v b) :
 ek P o a w fun j i=>∃ν,CQ base w0 I ν b i/\BO I ν v j/\Nx I μ st S I ν b:=by
 intro K Q t;obtain⟨n,j,i,ν,u,g,f⟩:=h;have s:∃ν,CQ base w0 I ν b i/\BO I ν v j/\Nx I μ st S I ν b:=by
  refine⟨ν,f.rel,f.val,HY.le_refl I,f.le,fun p _ k=>f.same p fun e=>k (m p e.symm),by rw[f.c];exact Nat.le_refl _,f.lo,fun p _ k q=>d p fun e=>?_⟩;rcases e with e|⟨l,e⟩
  ·exact k e
  ·rw[q]at e;cases e
 have:=t j i s;unfold Oper.wp;rw[u];rcases g with g|⟨g,r⟩
 ·subst g;exact this
 ·subst g r;exact this
theorem ADC{s p:Nat}{k:AK}{args:List AV}{a:List Value}(b:BR I μ args a)(h:Hit s k args p):(JA k).map (s+·)=some p∨∃d,μ p=some d:=by
 rcases h with h|⟨x,g,e⟩
 ·exact .inl h
 ·obtain⟨i,f⟩:=List.getElem?_of_mem g;obtain⟨j,_,c⟩:=b.get i x f;exact .inr (vv c e)
theorem sS{args:List AV}{Q:AV×St->Prop}(h:(Qp args st).all Q):(Qp args st).all fun r=>Q r/\Kept st r.2 fun p=>∃x∈args,x.CL=some p:=by
 unfold Qp at h⊢;split at h
 ·rename_i i;split at h
  ·rename_i e;exact⟨h,Kept.refl _ _⟩
  ·rename_i o since seen b e;rw[cond_eq_ite]at h;split at h
   ·exact h.elim
   ·rename_i d;simp only[cond_eq_ite,d,if_false,Bool.false_eq_true];split at h
    ·rename_i m n g clock k;rw[cond_eq_ite]at h;split at h
     ·exact h.elim
     ·rename_i l;simp only[l];intro j a;have a:=h j a;dsimp only at a⊢;revert a;generalize (candidates g since seen)[j]? =c;intro a;unfold Yd at a⊢;split at a
      ·exact⟨a,Kept.refl _ _⟩
      ·split at a
       ·split at a
        ·exact⟨a,(QI e).mono fun p f=>⟨_,List.mem_cons_self ..,by rw[f];rfl⟩⟩
        ·exact a.elim
       ·exact a.elim
      ·exact a.elim
    ·exact h.elim
  ·exact h.elim
 ·exact h.elim
def ADg(base:Nat)(w0:Start)(I:HY)(μ:Mu)(st:St)(S:Nat->Prop)(Q:AV×St->Prop)(rv:Value)(w':World):Prop:=
 ∃v st' J ν,Q (v,st')/\CQ base w0 J ν st' w'/\BO J ν v rv/\Nx I μ st S J ν st'
theorem ABK{o:Oper}{a:Act}{f:Nat}{b:List Value}{R:Value->World->Prop}(g:(execOp a.eval o).run P w=.ok (.enter f b.toArray) w)(l:Calls P f b.toArray w fun e d=>∃c,e=.returned c/\R c d):ek P o a w R:=by intro K Q j;unfold Oper.wp;rw[g,Oper.upon_enter];refine Calls.mono l fun e d h=>?_;obtain⟨c,k,i⟩:=h;subst k;exact j c d i
theorem toArray_map(l:Array Operand)(ρ:Operand->Value):(l.toList.map ρ).toArray=l.map ρ:=by apply Array.ext';simp
theorem ADT{E:Env}{call:Nat->List AV->St->M (AV×St)}{GT:Nat->Option AV}(T:MU P GT call)(hG:Ht GT I){X:Nat->Option Ext}(hX:ko P X)(hM:pM P E)(H:CQ base w0 I μ st w)(a0:st.lo<=st.c){s:Nat}{k:AK}{o:Oper}{os:List Operand}(j:UD P X k o.op=some os){a:Act}{args:List AV}(F:BR I μ args (os.map a.eval))(a1:pO s μ st k){Q:AV×St->Prop}(h:(Kg E call s k args st).all Q) :
 ek P o a w (ADg base w0 I μ st (fun p=>(JA k).map (s+·)=some p) Q):=by
 have plain:(M.FM (step s k args st)).all Q->ek P o a w (ADg base w0 I μ st (fun p=>(JA k).map (s+·)=some p) Q):=by intro h;obtain⟨⟨v,z⟩,q,B⟩:=M.Sy h;have hs:=fH H hX j (fun f=>rfl) F a1 q;intro K Q' hK;refine ek.ABo (S:=fun p=>(JA k).map (s+·)=some p) (fun p e=>e) ((rJ q).mono fun p hp=>ADC F hp) hs K Q' fun u w' L=>hK u w' ?_;obtain⟨ν,g1,g2,g3⟩:=L;exact⟨v,z,I,ν,B,g1,g2,g3⟩
 have enter:∀{f:Nat} {l:List AV} {N:List Value},BR I μ l N->(call f l st).all Q->(∀W,(callFunc f N.toArray).run P W=.ok (.enter f N.toArray) W->(execOp a.eval o).run P W=.ok (.enter f N.toArray) W) ->
  ek P o a w (ADg base w0 I μ st (fun p=>(JA k).map (s+·)=some p) Q):=by
  intro f l N hl hq he;obtain⟨q,B⟩:=T f l st Q hq base w0 I μ w N H a0 hG hl;refine ABK (he w (q w)) (Calls.mono B fun e w' L=>?_);obtain⟨u,v,z,J,ν,e1,Z,e3,e4,e5⟩:=L;exact⟨u,e1,v,z,J,ν,Z,e3,e4,e5.mono fun _ _ h=>h.elim⟩
 cases k;case next=>
  obtain⟨A,V,type,D,after,guard⟩:=o;simp only at j;cases V<;>simp only[UD,Ms,KV,JH,Jc,Jl,reduceCtorEq]at j;case next it isString=>
   obtain⟨q,B⟩:=DL j;subst B;have q:isString=false:=by simpa using q
   subst q;obtain⟨v,z,⟨q1,q3⟩,q2⟩:=AAO (P:=P) (t:=type) H F _ (sS h);have O:Kept st z fun p=>(none:Option Nat)=some p∨∃pl,μ p=some pl:=q3.mono fun p hp=>by obtain⟨x,hx,ht⟩:=hp;obtain⟨i,hi⟩:=List.getElem?_of_mem hx;obtain⟨u,_,B⟩:=F.get i x hi;exact .inr (vv B ht)
   intro K Q' hK;refine ek.ABo (S:=fun p=>(none:Option Nat)=some p) (so:=none) (fun p e=>e) O (DJ.ky q2) K Q' fun u w' L=>hK u w' ?_;obtain⟨ν,g1,g2,g3⟩:=L;exact⟨v,z,I,ν,q1,g1,g2,g3⟩
  case call c=>
   exfalso;unfold Np at j;split at j
   ·have:=(DL j).1;unfold JW at this;split at this<;>simp at this
   ·simp at j
   ·simp at j
 case call f=>
  obtain⟨A,V,type,D,after,guard⟩:=o;simp only at j;cases V<;>simp only[UD,Ms,KV,JH,Jc,Jl,reduceCtorEq]at j;case call c=>
   obtain⟨callee,b,ts⟩:=c;unfold Np at j;split at j
   ·have:=(DL j).1;unfold JW at this;split at this<;>simp at this
   ·simp at j
   ·rename_i g hg;simp only at hg j;subst hg;split at j
    ·rename_i g;obtain⟨q,B⟩:=DL j;subst B;have:=Nat.eq_of_beq_eq_true q;subst this;refine enter F h fun W U=>?_;rw[ak (show a.eval (.func g)=.func (.func g) #[] #[] from rfl),←toArray_map];exact U
    ·cases j
 case Ko=>
  obtain⟨A,V,type,D,after,guard⟩:=o;simp only at j;cases V<;>simp only[UD,Ms,KV,JH,Jc,Jl,reduceCtorEq]at j;case call c=>
   obtain⟨callee,b,ts⟩:=c;unfold Np at j;split at j
   ·have:=(DL j).1;unfold JW at this;split at this<;>simp at this
   ·simp at j
   ·rename_i g hg;simp only at hg j;subst hg;cases j;simp only[Kg]at h;unfold QL at h;split at h
    ·rename_i f x y l;rw[List.map_cons]at F;cases F with
     |cons _ rf _ N hf hl=>
     generalize R:a.eval g=rf at hf;cases hf with
     |fn _ _ _ rx ry hx hy=>
     refine enter (hx.append (hl.append hy)) h fun W U=>?_;have e1:execOp a.eval ⟨A,.call ⟨.value g,b,ts⟩,type,D,after,guard⟩=(do let d ← Deferred.ofValue (a.eval g) (b.map a.eval);invoke d.target d.args):=rfl;rw[e1,R];have Z:(rx++(b.toList.map a.eval++ry)).toArray=rx.toArray++b.map a.eval++ry.toArray:=by rw[←toArray_map];simp
     rw[Z]at U⊢;simp only[Deferred.ofValue,Sem.run_bind,Sem.run_pure,Result.andThen_ok,invoke];exact U
    ·exact h.elim
 case invoke name=>
  obtain⟨A,V,type,D,after,guard⟩:=o;simp only at j;cases V<;>simp only[UD,Ms,KV,JH,Jc,Jl,reduceCtorEq]at j;case call c=>
   obtain⟨callee,b,ts⟩:=c;unfold Np at j;split at j
   ·have:=(DL j).1;unfold JW at this;split at this<;>simp at this
   ·rename_i r n L;simp only at L j;subst L;obtain⟨q,B⟩:=DL j;subst B;have q:name=n:=by simpa using q
    subst q;simp only[Kg]at h;unfold callMethod at h;split at h
    ·rename_i t v l;split at h
     ·rename_i f hf;rw[List.map_cons]at F;cases F with
      |cons _ rf _ N Y hl=>
      generalize R:a.eval r=rf at Y;cases Y with
      |iface _ _ u hv=>
      refine enter (.cons _ _ _ _ hv hl) h fun W U=>?_;have e1:execOp a.eval ⟨A,.call ⟨.invoke r name,b,ts⟩,type,D,after,guard⟩=invoke (.fn (.method name) #[]) (#[a.eval r]++b.map a.eval):=rfl;rw[e1,R];have Z:(u::b.toList.map a.eval).toArray=#[u]++b.map a.eval:=by rw[←toArray_map];simp
      rw[Z]at U⊢;have hm:=hM t name f hf u W;have e3:(#[Value.iface t u]++b.map a.eval)[0]? =some (.iface t u):=by rw[Array.getElem?_append_left (by simp)];rfl
      have e4:(#[Value.iface t u]++b.map a.eval).extract 1 (#[Value.iface t u]++b.map a.eval).size=b.map a.eval:=by generalize b.map a.eval=m;obtain⟨m⟩:=m;apply Array.ext';rw[Array.toList_extract,List.extract_eq_take_drop,Array.toList_append];simp[List.take_of_length_le]
      simp only[invoke,e3,e4,Go.callMethod,Sem.run_bind,run_program,Result.andThen_ok,hm,U]
     ·exact h.elim
    ·exact h.elim
   ·simp at j
 all_goals exact plain h
end
end Go.Am
namespace Go.Am
open Go Go.RowKit
variable {P:Program}
 mutual
theorem AV.beq_eq:∀{a b:AV},AV.beq a b=true->a=b
 |.bool a,.bool b,h=>by simp[AV.beq]at h;rw[h]
 |.int k a,.int j b,h=>by simp[AV.beq]at h;rw[h.1,h.2]
 |.str a,.str b,h=>by simp[AV.beq]at h;rw[h]
 |.DY,.DY,_=>rfl
 |.AL o a,.AL p b,h=>by simp[AV.beq]at h;rw[h.1,h.2]
 |.CB a,.CB b,h=>by simp only[AV.beq]at h;rw[AV.Nq h]
 |.AO,.AO,_=>rfl
 |.list t n a,.list u m b,h=>by simp only[AV.beq,Aq,IJ]at h;rw[h.1.1,h.1.2,AV.Nq h.2]
 |.AU o a l c,.AU p b m d,h=>by simp[AV.beq]at h;rw[h.1.1.1,h.1.1.2,h.1.2,h.2]
 |.IZ,.IZ,_=>rfl
 |.Cq o,.Cq p,h=>by simp[AV.beq]at h;rw[h]
 |.CR a b,.CR c d,h=>by simp only[AV.beq,Aq]at h;rw[AV.Nq h.1,AV.Nq h.2]
 |.fn f a b,.fn g c d,h=>by simp only[AV.beq,Aq,Aw]at h;rw[h.1.1,AV.Nq h.1.2,AV.Nq h.2]
 |.Nc,.Nc,_=>rfl
 |.iface t v,.iface u w,h=>by simp only[AV.beq,Aq,IJ]at h;rw[h.1,AV.beq_eq h.2]
 |.Ij,.Ij,_=>rfl
 |.agg a,.agg b,h=>by simp only[AV.beq]at h;rw[AV.Nq h]
 |.tuple a,.tuple b,h=>by simp only[AV.beq]at h;rw[AV.Nq h]
theorem AV.Nq:∀{a b:List AV},AV.VJ a b=true->a=b
 |[],[],_=>rfl
 |a::x,b::y,h=>by simp only[AV.VJ,Aq]at h;rw[AV.beq_eq h.1,AV.Nq h.2]
end
theorem TS.nX(v:AV):∀(n i j:Nat),i+1<2^n->(TS.single v n i).get j=if i=j then v else .undef:=by
 intro n;induction n with
 |zero=>intro i j h;omega
 |succ n a=>
  intro i j h;have b:2^(n+1)=2*2^n:=by rw[Nat.pow_succ];omega
  simp only[TS.single,beq_eq,Ad,Aw];by_cases h0:i=0
  ·subst h0;simp only[FC,TS.get,beq_eq,Ad,Aw];by_cases hj:j=0
   ·simp[hj]
   ·rw[AJ hj,AJ (Aj hj)];split<;>simp
  ·simp only[h0,Dn];by_cases h1:i % 2=1
   ·simp only[h1,FC,TS.get,beq_eq,Ad,Aw];by_cases hj:j=0
    ·subst hj;simp[h0]
    ·rw[AJ hj];by_cases hj1:j % 2=1
     ·rw[AX hj1,a _ _ (by omega)];by_cases hij:i=j
      ·subst hij;simp
      ·rw[AJ hij,AJ (by omega)]
     ·rw[AJ hj1,AJ (by omega)]
   ·simp only[h1,Dn,TS.get,beq_eq,Ad,Aw];by_cases hj:j=0
    ·subst hj;simp[h0]
    ·rw[AJ hj];by_cases hj1:j % 2=1
     ·rw[AX hj1,AJ (by omega)]
     ·rw[AJ hj1,a _ _ (by omega)];by_cases hij:i=j
      ·subst hij;simp
      ·rw[AJ hij,AJ (by omega)]
theorem TS.Xg(v:AV):∀(t:TS) (i j:Nat),i+1<2^16->(t.set i v).get j=if i=j then v else t.get j:=by
 intro t;induction t with
 |nil=>intro i j h;simp only[TS.set];rw[TS.nX v 16 i j h];rfl
 |node x l r b a=>
  intro i j h;simp only[TS.set,beq_eq,Ad,Aw];by_cases h0:i=0
  ·subst h0;simp only[FC,TS.get,beq_eq,Ad,Aw];by_cases hj:j=0
   ·simp[hj]
   ·rw[AJ hj,AJ (Aj hj),AJ hj]
  ·simp only[h0,Dn];by_cases h1:i % 2=1
   ·simp only[h1,FC,TS.get,beq_eq,Ad,Aw];by_cases hj:j=0
    ·subst hj;simp[h0]
    ·rw[AJ hj,AJ hj];by_cases hj1:j % 2=1
     ·rw[AX hj1,AX hj1,b _ _ (by omega)];by_cases hij:i=j
      ·subst hij;simp
      ·rw[AJ hij,AJ (by omega)]
     ·rw[AJ hj1,AJ hj1,AJ (by omega)]
   ·simp only[h1,Dn,TS.get,beq_eq,Ad,Aw];by_cases hj:j=0
    ·subst hj;simp[h0]
    ·rw[AJ hj,AJ hj];by_cases hj1:j % 2=1
     ·rw[AX hj1,AX hj1,AJ (by omega)]
     ·rw[AJ hj1,AJ hj1,a _ _ (by omega)];by_cases hij:i=j
      ·subst hij;simp
      ·rw[AJ hij,AJ (by omega)]
structure Nh (N:Nat)(I:HY)(μ:Mu)(ts:TS)(a:Act):Prop where
 size:N<=a.tmps.size
 small:N<2^15
 get:∀t,t<N->BO I μ (ts.get t) (a.eval (.tmp t))
section
variable {N:Nat}{I J:HY}{μ ν:Mu}{ts:TS}{a:Act}
theorem Nh.mono(h:Nh N I μ ts a)(d:I.le J)(c:μ.le ν):Nh N J ν ts a:=⟨h.size,h.small,fun t b=>(h.get t b).mono d c⟩
theorem Nh.put(h:Nh N I μ ts a){v:AV}{b:Value}(k:BO I μ v b){d:Option Nat}(f:∀t,d=some t->t<N):Nh N I μ (put ts d v) (a.put d b):=by
 cases d with
 |none=>exact h
 |some d=>
  have f:=f d rfl;have i:=h.small;refine⟨by simp[Act.put,h.size],h.small,fun t j=>?_⟩;show BO I μ ((ts.set d v).get t) _;rw[TS.Xg _ _ _ _ (by omega)];by_cases e:d=t
  ·subst e;simp only[FC,Act.eval,Act.put];have:(a.tmps.setIfInBounds d b).getD d undef=b:=by
    have l:=h.size;have c:d<a.tmps.size:=by omega
    simp[Array.getD,c]
   rw[this];exact k
  ·rw[AJ e];have:=h.get t j;simp only[Act.eval,Act.put]at this⊢;have g:(a.tmps.setIfInBounds d b).getD t undef=a.tmps.getD t undef:=by simp[TF,TH e]
   rw[g];exact this
def dn(N:Nat)(GT:Nat->Option AV)(x:Operand)(y:Ki):Bool:=
 match x with
 |.tmp t=>(match y with|.tmp u=>Nat.beq t u&&Nat.blt t N|_=>false)
 |.const c=>(match y with|.val v=>dm v c|_=>false)
 |.global g=>(match y with|.val v=>(match GT g with|some u=>!u.isTuple&&AV.beq u v|none=>false)|_=>false)
 |.func f=>(match y with|.val (.fn (.func g) [] [])=>Nat.beq f g|_=>false)
theorem ay(e:Nh N I μ ts a){GT:Nat->Option AV}(d:Ht GT I){x:Operand}{y:Ki}(h:dn N GT x y=true):BO I μ (ev ts y) (a.eval x):=by
 unfold dn at h;split at h
 ·split at h
  ·rw[Aq]at h;have:=Cb h.1;subst this;have b:=h.2;rw[blt_eq]at b;exact e.get _ (by simpa using b)
  ·cases h
 ·split at h
  ·exact Xi h
  ·cases h
 ·split at h
  ·split at h
   ·rename_i u c;rw[Aq,Fp]at h;have:=AV.beq_eq h.2;subst this;exact (d _ _ c).2.1 h.1 μ
   ·cases h
  ·cases h
 ·split at h
  ·have:=Cb h;subst this;exact .fn _ _ _ [] [] .nil .nil
  ·cases h
def Xj(N:Nat)(GT:Nat->Option AV):List Operand->List Ki->Bool
 |[],[]=>true
 |x::l,y::m=>dn N GT x y&&Xj N GT l m
 |_,_=>false
theorem RA(b:Nh N I μ ts a){GT:Nat->Option AV}(c:Ht GT I):∀{l:List Operand} {m:List Ki},Xj N GT l m=true->BR I μ (WL ts m) (l.map a.eval)
 |[],[],_=>.nil
 |x::l,y::m,h=>by simp only[Xj,Aq]at h;exact .cons _ _ _ _ (ay b c h.1) (RA b c h.2)
def ZP(N:Nat)(ops:Array Oper)(g h:Option (Nat×Bool)):Bool:=
 match g,h with
 |none,none=>true
 |some (j,b),some (t,c)=>(b==c)&&Nat.blt t N&&(match ops[j]? with|some o=>(match o.dst with|some u=>Nat.beq u t|none=>false)|none=>false)
 |_,_=>false
def AAh(b:Bool)(rv:Value):Bool:=match rv with
 |.bool c=>c==b
 |_=>false
theorem uC{v:AV}{a:Value}{b:Bool}(h:BO I μ v a):isBool b v=AAh b a:=by cases h<;>rfl
theorem jB(l:Nh N I μ ts a){e:Array Oper}{o:Oper}{g:Option (Nat×Bool)}(h:ZP N e o.guard g=true):Region.wanted o (yielded e a.tmps)=wanted g ts:=by
 unfold ZP at h;unfold Region.wanted;split at h
 ·rename_i k;rw[k];rfl
 ·rename_i j b t c k;simp only[Aq,IJ]at h;obtain⟨⟨i,d⟩,f⟩:=h;subst i;rw[k];have d:t<N:=by rw[blt_eq]at d;simpa using d
  split at f
  ·rename_i s n;split at f
   ·rename_i u p;have:=Cb f;subst this;have r:=l.get u d;have m:=l.size;have q:a.tmps[u]? =some (a.eval (.tmp u)):=by simp only[Act.eval,TF];rw[MO (by omega)];rfl
    simp only[wanted,uC r];unfold yielded;rw[n];simp only[Option.bind_some,p,q];generalize a.eval (.tmp u)=rv;cases rv<;>first|rfl|(rename_i c;cases c<;>cases b<;>rfl)
   ·cases f
  ·cases f
 ·cases h
def Yr:AK->Bool
 |.fail=>true
 |_=>false
def oU(N:Nat)(a b:Option Nat):Bool:=
 match a,b with
 |none,none=>true
 |some x,some y=>Nat.beq x y&&Nat.blt x N
 |_,_=>false
theorem az{a b:Option Nat}(h:oU N a b=true):a=b/\∀t,a=some t->t<N:=by
 unfold oU at h;split at h
 ·exact⟨rfl,fun t c=>by cases c⟩
 ·rw[Aq,blt_eq]at h;have:=Cb h.1;subst this;exact⟨rfl,fun t c=>by cases c;simpa using h.2⟩
 ·cases h
def NK(P:Program)(X:Nat->Option Ext)(N:Nat)(GT:Nat->Option AV)(ops:Array Oper)(o:Oper)(ao:Dr):Bool:=
 oU N o.dst ao.dst&&ZP N ops o.guard ao.guard&&(Yr ao.k||match UD P X ao.k o.op with
  |some os=>Xj N GT os ao.args
  |none=>false)
end
end Go.Am
namespace Go.Am
open Go Go.RowKit
variable {P:Program}
def zP(P:Program)(ops:Array Oper)(o:Oper)(a:Act)(w:World)(R:Act->World->Prop):Prop:=
 ∀(K:Act->World->Prop) (Q:Exit->Act->World->Prop),(∀a' w',R a' w'->K a' w') ->
  (if Region.wanted o (yielded ops a.tmps) then o.wp P a w K Q∨(o.asks P a w/\LetsOut Q) else K (a.put o.dst undef) w)
def At(base:Nat)(w0:Start)(N:Nat)(I:HY)(μ:Mu)(st:St)(S:Nat->Prop)(Q:TS×St->Prop)(a:Act)(a':Act)(w':World):Prop:=
 ∃ts' st' J ν,Q (ts',st')/\CQ base w0 J ν st' w'/\Nh N J ν ts' a'/\Nx I μ st S J ν st'/\a'.defers=a.defers
theorem put_defers(a:Act)(d:Option Nat)(v:Value):(a.put d v).defers=a.defers:=by cases d<;>rfl
structure XG (P:Program) where
 E:Env
 X:Nat->Option Ext
 GT:Nat->Option AV
 ext:ko P X
 AAV:pM P E
section
variable {G:XG P}{base:Nat}{w0:Start}{I:HY}{μ:Mu}{st:St}{w:World}{N:Nat}{ts:TS}{a:Act}
theorem nU{E:Env}{call:Nat->List AV->St->M (AV×St)}{s:Nat}{k:AK}{args:List AV}{Q:AV×St->Prop}(a:Yr k=true)(h:(Kg E call s k args st).all Q):False:=by cases k<;>simp[Yr]at a;exact h
theorem qb{call:Nat->List AV->St->M (AV×St)}(e:MU P G.GT call)(H:CQ base w0 I μ st w)(m:st.lo<=st.c)(j:Nh N I μ ts a)(t:Ht G.GT I){i:Array Oper}{o:Oper}{d:Dr}(x:NK P G.X N G.GT i o d=true){s:Nat}(r:pO s μ st d.k){Q:TS×St->Prop}(h:(MK G.E call s d ts st).all Q) :
 zP P i o a w (At base w0 N I μ st (fun p=>(JA d.k).map (s+·)=some p) Q a):=by
 simp only[NK,Aq,FO]at x;obtain⟨⟨y,F⟩,b⟩:=x;obtain⟨g,f⟩:=az y;have z:=jB j F;intro K L u;rw[z];unfold MK at h;rw[Ad]at h;by_cases hwant:wanted d.guard ts=true
 ·rw[AX hwant]at h⊢;refine .inl ?_;rw[M.all_bind]at h;rcases b with b|b
  ·exact (nU b h).elim
  ·split at b
   ·rename_i T n;have O:=RA j t b;refine ADT e t G.ext G.AAV H m n O r h K L fun U S B=>u _ _ ?_;obtain⟨v,l,J,ν,R,A,D,q⟩:=B;refine⟨put ts d.dst v,l,J,ν,R,A,?_,q,put_defers _ _ _⟩;rw[←g];exact (j.mono q.PM q.le).put D f
   ·cases b
 ·rw[AJ hwant]at h⊢;refine u _ _ ⟨put ts d.dst .undef,st,I,μ,h,H,?_,Nx.refl _ _ _ _,put_defers _ _ _⟩;rw[←g];exact j.put (.tuple [] [] .nil) f
def QK(P:Program)(X:Nat->Option Ext)(N:Nat)(GT:Nat->Option AV)(ops:Array Oper):List Oper->List Dr->Bool
 |[],[]=>true
 |o::l,ao::m=>NK P X N GT ops o ao&&QK P X N GT ops l m
 |_,_=>false
def MZ(l:List Dr):List Nat:=l.filterMap fun o=>JA o.k
def iy(na:Nat):List Nat->Bool
 |[]=>true
 |i::l=>Nat.blt i na&&!l.any (Nat.beq i)&&iy na l
theorem aa{a i:Nat}{l:List Nat}(h:iy a (i::l)=true):i<a/\i∉l/\iy a l=true:=by simp only[iy,Aq,Fp,blt_eq,Aw,List.any_eq_false]at h;exact⟨h.1.1,fun b=>h.1.2 i b (by simp),h.2⟩
theorem iw{a i:Nat}{l:List Nat}(h:iy a l=true)(b:i∈l):i<a:=by
 induction l with
 |nil=>cases b
 |cons j l c=>
  obtain⟨d,g,f⟩:=aa h;rcases BK.1 b with e|e
  ·subst e;exact d
  ·exact c f e
theorem Ht.mono{GT:Nat->Option AV}{J:HY}(h:Ht GT I)(a:I.le J):Ht GT J:=fun g u d=>⟨fun e=>((h g u d).1 e).imp fun _ i=>a.1 _ _ _ i,fun e μ=>((h g u d).2.1 e μ).mono a (fun _ _ h=>h),fun k n c=>(by obtain⟨m,f,b,l,j⟩:=(h g u d).2.2 k n c;exact⟨m,f,b,a.2 _ _ l,fun μ=>(j μ).mono a (fun _ _ h=>h)⟩)⟩
theorem ABS{call:Nat->List AV->St->M (AV×St)}(x:MU P G.GT call){m:Array Oper}{s na:Nat}{V:Exit->Act->World->Prop}:∀(l:List Dr) (j:List Oper) (i:Nat) (st:St) (ts:TS) (a:Act) (w:World) (I:HY) (μ:Mu) (Q:TS×St->Prop),
 m.toList.drop i=j->QK P G.X N G.GT m j l=true->CQ base w0 I μ st w->st.lo<=s->s+na<=st.c->Nh N I μ ts a->Ht G.GT I->iy na (MZ l)=true->(∀id∈MZ l,μ (s+id)=none)->(MV G.E call s l ts st).all Q ->
 (∀L F,At base w0 N I μ st (s<=·) Q a L F->V .normal L F)->wpOps P m V (List.range' i j.length) a w:=by
 intro l;induction l with
 |nil=>
  intro j i st ts a w I μ Q u y H D z W hG b d h S;cases j with
  |nil=>show V .normal a w;exact S a w ⟨ts,st,I,μ,h,H,W,Nx.refl _ _ _ _,rfl⟩
  |cons o j=>simp[QK]at y
 |cons r l ih=>
  intro j i st ts a w I μ Q u y H D z W hG b d h S;cases j with
  |nil=>simp[QK]at y
  |cons o j=>
   simp only[QK,Aq]at y;have a3:m[i]? =some o:=by rw[←IW];exact (getElem?_of_drop u).1
   have B:=(getElem?_of_drop u).2;rw[FV,List.range'_succ];simp only[wpOps,a3];have v:pO s μ st r.k:=by
    intro id v;have n:id∈MZ (r::l):=by simp[MZ,v]
    have:=iw b n;exact⟨d id n,by omega,by omega⟩
   have g:iy na (MZ l)=true/\∀id,JA r.k=some id->id∉MZ l:=by
    cases hk:JA r.k with
    |none=>
     have:MZ (r::l)=MZ l:=by simp[MZ,hk]
     rw[this]at b;exact⟨b,fun id h=>by cases h⟩
    |some f=>
     have:MZ (r::l)=f::MZ l:=by simp[MZ,hk]
     rw[this]at b;obtain⟨h1,O,h3⟩:=aa b;exact⟨h3,fun id h=>by cases h;exact O⟩
   have t:∀id∈MZ l,id∈MZ (r::l):=fun id n=>by
    cases hk:JA r.k with
    |none=>simpa [MZ,hk]using n
    |some f=>simp[MZ,hk];right;simpa [MZ]using n
   rw[MV,M.all_bind]at h;refine qb x H (by omega) W hG y.1 v h _ _ fun L F Z=>?_;obtain⟨R,a0,J,ν,h1,O,h3,A,h5⟩:=Z;refine ih j (i+1) a0 R L F J ν Q B y.2 O (by rw[A.lo];exact D) (DV z A.c) h3 (hG.mono A.PM) g.1 (fun id n=>?_) h1 fun a2 w2 Z=>S a2 w2 ?_
   ·have a4:=iw b (t id n);rw[A.same (s+id) (by omega) fun e=>?_]
    ·exact d id (t id n)
    ·obtain⟨f,Y,g2⟩:=Gf.1 e;have:f=id:=by omega
     subst this;exact g.2 f Y n
   ·obtain⟨a1,U,K,ξ,Y,g2,g3,g4,g5⟩:=Z;refine⟨a1,U,K,ξ,Y,g2,g3,?_,g5.trans h5⟩;refine (A.mono (T:=(s<=·)) fun p _ e=>?_).trans g4 fun p _ h=>h;obtain⟨f,_,q⟩:=Gf.1 e;show s<=p;omega
def WR(P:Program)(X:Nat->Option Ext)(N:Nat)(GT:Nat->Option AV)(ops:Array Oper)(na:Nat)(l:List Dr):Bool:=
 QK P X N GT ops ops.toList l&&iy na (MZ l)
theorem rZ{call:Nat->List AV->St->M (AV×St)}(d:MU P G.GT call){b:Array Oper}{na:Nat}{l:List Dr}(o:WR P G.X N G.GT b na l=true)(H:CQ base w0 I μ st w)(n:st.lo<=st.c)(B:Nh N I μ ts a)(v:Ht G.GT I){Q:TS×St->Prop}(h:(MV G.E call st.c l ts { st with c:=st.c+na }).all Q){q:Exit->Act->World->Prop}(u:∀g f,At base w0 N I μ st (fun _=>False) Q a g f->q .normal g f)(id:Nat):(Code.region id b false).wp P q a w:=by
 simp only[WR,Aq]at o;refine wp_region ?_;have j:List.range b.size=List.range' 0 b.toList.length:=by rw[List.range_eq_range'];simp
 rw[j];have A:CQ base w0 I μ { st with c:=st.c+na } w:=H.more (KF _ _);refine ABS (G:=G) (N:=N) (s:=st.c) (na:=na) d l b.toList 0 _ ts a w I μ Q rfl o.1 A n (Ao _) B v o.2 (fun id _=>H.jS _ (KF _ _)) h fun g f j=>u g f ?_;obtain⟨m,k,J,ν,y,r,t,e,z⟩:=j;refine⟨m,k,J,ν,y,r,t,⟨e.PM,e.le,fun p i _=>e.same p (Bt i (KF _ _)) (by show ¬st.c<=p;omega),DV (KF _ _) e.c,e.lo,
  fun p i _ x=>e.kept p (Bt i (KF _ _)) (by show ¬st.c<=p;omega) x⟩,z⟩
end
end Go.Am
namespace Go.Am
open Go Go.RowKit
def SC:AK->Bool
 |.move|.pick|.build ..|.nilCheck|.bin _|.eq ..|.XN ..|.un _|.De _|.PR|.GN _|.Nk ..|.IP ..|.fieldAddr _|.field ..|.KC ..|.Fw|.extract _|.len .str|.len .slice|.cap|.min|.max|.Rk|.ext _=>true
 |_=>false
def zQ(st st2:St):Prop:=∀p x,AA st.h p=some x->AA st2.h p=some x
section
variable {s:Nat}{k:AK}{args:List AV}{st st' st2:St}{v:AV}
theorem MC{x:Option AV}(h:Ia st x=some (v,st')):Ia st2 x=some (v,st2):=by
 unfold Ia at h⊢;split at h
 ·cases h;rfl
 ·cases h
theorem GQ{f g:AV->R}(h:Jd args f=some (v,st'))(a:∀x,f x=some (v,st')->g x=some (v,st2)):Jd args g=some (v,st2):=by obtain⟨x,rfl,h⟩:=CU h;exact a x h
theorem KY{f g:AV->AV->R}(h:Ke args f=some (v,st'))(a:∀x y,f x y=some (v,st')->g x y=some (v,st2)):Ke args g=some (v,st2):=by obtain⟨x,y,rfl,h⟩:=Cz h;exact a x y h
theorem vB{f g:AV->AV->AV->R}(h:ZV args f=some (v,st'))(a:∀x y z,f x y z=some (v,st')->g x y z=some (v,st2)):ZV args g=some (v,st2):=by obtain⟨x,y,z,rfl,h⟩:=KD h;exact a x y z h
theorem Yw(b:SC k=true)(h:step s k args st=some (v,st')):step s k args st2=some (v,st2):=by
 cases k<;>simp only[SC,GA]at b<;>simp only[step]at h⊢;case move=>exact GQ h fun x g=>by cases g;rfl
 case pick=>exact vB h fun x y z g=>by unfold Rq at g⊢;split at g<;>cases g;rfl
 case build=>exact MC h
 case nilCheck=>exact GQ h fun x g=>by unfold DT at g⊢;split at g<;>cases g<;>rfl
 case bin=>exact KY h fun x y g=>MC g
 case eq=>exact KY h fun x y g=>MC g
 case XN=>
  refine KY h fun x y g=>?_;unfold YU at g⊢;split at g
  ·split at g<;>cases g;rfl
  ·split at g
   ·cases g;rfl
   ·rw[Ad]at g⊢;split at g
    ·rename_i a;rw[AX a];split at g
     ·split at g<;>cases g;rfl
     ·cases g
    ·rename_i a;rw[AJ a];cases g;rfl
   ·cases g
  ·cases g
 case un=>exact GQ h fun x g=>MC g
 case De=>exact GQ h fun x g=>by unfold Mi at g⊢;split at g<;>cases g;rfl
 case PR=>
  exact GQ h fun x g=>by
   unfold LQ at g⊢;split at g
   ·cases g;rfl
   ·split at g
    ·rename_i c;cases g;simp only[c,FC]
    ·cases g
   ·cases g
 case GN=>exact GQ h fun x g=>by cases g;rfl
 case Nk=>cases h;rfl
 case IP=>
  unfold Kz at h⊢;split at h
  ·split at h
   ·split at h
    ·rw[Ad]at h⊢;split at h
     ·rename_i a;rw[AX a];cases h;rfl
     ·cases h
    ·cases h
   ·cases h
  ·cases h
 case fieldAddr=>exact GQ h fun x g=>by unfold Cx at g⊢;split at g<;>cases g<;>rfl
 case field=>
  refine GQ h fun x g=>?_;unfold Sk at g⊢;split at g
  ·split at g
   ·rw[Ad]at g⊢;split at g
    ·rename_i a;rw[AX a];cases g;rfl
    ·cases g
   ·exact MC g
  ·cases g
 case KC=>
  refine KY h fun x y g=>?_;unfold Mh at g⊢;split at g
  ·rw[Ad]at g⊢;split at g
   ·rename_i a;rw[AX a];split at g<;>cases g<;>rfl
   ·cases g
  ·cases g
 case Fw=>
  refine KY h fun x y g=>?_;unfold IQ at g⊢;split at g
  ·split at g
   ·split at g<;>cases g;rfl
   ·cases g
  ·cases g
 case extract=>
  refine GQ h fun x g=>?_;unfold LP at g⊢;split at g
  ·exact MC g
  ·cases g
 case len lk=>
  refine GQ h fun x g=>?_;unfold BZ at g⊢;cases lk with
  |str=>simp only at g⊢;split at g<;>cases g;rfl
  |slice=>simp only at g⊢;split at g<;>cases g;rfl
  |map=>cases b
 case cap=>exact GQ h fun x g=>by unfold TV at g⊢;split at g<;>cases g<;>rfl
 case min=>
  unfold Ub at h⊢;split at h
  ·exact MC h
  ·cases h
 case max=>
  unfold TU at h⊢;split at h
  ·exact MC h
  ·cases h
 case Rk=>
  refine GQ h fun x g=>?_;unfold Kk at g⊢;split at g
  ·cases g;rfl
  ·rw[Ad]at g⊢;split at g
   ·rename_i a;rw[AX a];cases g;rfl
   ·cases g
  ·cases g
 case ext e=>
  cases e with
  |same=>exact GQ (f:=fun x=>some (x,st)) (g:=fun x=>some (x,st2)) h fun x g=>by cases g;rfl
  |indexByte=>
   refine KY (f:=fun x y=>LJ x y st) (g:=fun x y=>LJ x y st2) h fun x y g=>?_;unfold LJ at g⊢;split at g
   ·split at g<;>cases g;rfl
   ·cases g
  |compare=>
   refine KY (f:=fun x y=>LU x y st) (g:=fun x y=>LU x y st2) h fun x y g=>?_;unfold LU at g⊢;split at g
   ·split at g<;>cases g;rfl
   ·cases g
theorem XJ(c:zQ st st2){a n:Nat}{x:AV}{b:List AV}(h:BS st.h a n x=some b):BS st2.h a n x=some b:=by
 unfold BS at h⊢;split at h
 ·exact h
 ·exact h
 ·split at h
  ·rename_i d;rw[c _ _ d];exact h
  ·cases h
 ·cases h
theorem mQ(i:zQ st st2)(w:JS k=true)(h:step s k args st=some (v,st')):step s k args st2=some (v,st2):=by
 cases hfr:SC k with
 |true=>exact Yw hfr h
 |false=>
 cases k<;>simp only[SC,JS,GA,Bool.true_eq_false]at w hfr<;>simp only[step]at h⊢;case load agg=>
  refine GQ h fun x g=>?_;have key:∀u,LB st.h agg x=some u->LB st2.h agg x=some u:=by
   intro u d;unfold LB at d⊢;split at d
   ·obtain⟨z,m,t⟩:=Gf.1 d;subst t;rw[Gf];refine⟨z,?_,rfl⟩;unfold Ak at m⊢;split at m
    ·split at m
     ·rename_i e;rw[i _ _ e];exact m
     ·cases m
    ·exact m
    ·cases m
   ·unfold AQ at d⊢;split at d
    ·split at d
     ·rename_i e;rw[i _ _ e];exact d
     ·cases d
    ·exact d
    ·cases d
  unfold Ia at g⊢;split at g
  ·rename_i u d;cases g;rw[key _ d]
  ·cases g
 case PS=>
  refine GQ h fun x g=>?_;unfold Nv at g⊢;split at g
  ·cases g
  ·split at g
   ·split at g
    ·rename_i f;rw[XJ i f];exact MC g
    ·cases g
   ·cases g
 case slice sz lo hi mx=>
  unfold DW at h⊢;split at h
  ·rename_i x l;split at h
   ·split at h
    ·split at h
     ·have key:∀{a b c u},GK sz x a b c st.h=some u->GK sz x a b c st2.h=some u:=by
       intro a b c u d;unfold GK at d⊢;split at d
       ·exact d
       ·exact d
       ·split at d
        ·rename_i e;rw[i _ _ e];exact d
        ·cases d
       ·cases d
      unfold Ia at h⊢;split at h
      ·rename_i u d;cases h;rw[key d]
      ·cases h
     ·cases h
    ·cases h
   ·cases h
  ·cases h
 case Pq=>
  unfold Mg at h⊢;split at h
  ·split at h
   ·split at h
    ·split at h
     ·rename_i e;rw[i _ _ e];simp only[Ad]at h⊢;split at h
      ·rename_i f;rw[AX f];cases h;rfl
      ·cases h
     ·cases h
    ·cases h
   ·cases h
  ·cases h
 case indexAddr=>
  refine KY h fun x y g=>?_;unfold AY at g⊢;split at g
  ·split at g
   ·rw[Ad]at g⊢;split at g
    ·rename_i f;rw[AX f];split at g<;>cases g;rfl
    ·cases g
   ·split at g
    ·rename_i e;rw[i _ _ e];simp only[Ad]at g⊢;split at g
     ·rename_i f;rw[AX f];cases g;rfl
     ·cases g
    ·cases g
   ·cases g
  ·cases g
 case lookup kk zero ok=>
  refine KY h fun x y g=>?_;have key:∀{o p:List AV} {k:AV},LA kk zero ok o p k st=some (v,st')->LA kk zero ok o p k st2=some (v,st2):=by
   intro o p k q;unfold LA MJ at q⊢;rw[Ad]at q⊢;split at q
   ·rename_i f;rw[AX f];split at q
    ·cases q;rfl
    ·split at q<;>cases q;rfl
    ·cases q
   ·cases q
  unfold FT at g⊢;split at g
  ·exact key g
  ·split at g
   ·rename_i e;rw[i _ _ e];exact key g
   ·cases g
  ·exact key g
  ·cases g
 case entry=>
  refine GQ h fun x g=>?_;unfold NH at g⊢;split at g
  ·split at g
   ·rename_i e;rw[i _ _ e];simp only;split at g
    ·rename_i r;rw[i _ _ r];simp only[Ad]at g⊢;split at g
     ·rename_i f;rw[AX f];split at g
      ·split at g
       ·split at g<;>cases g;rfl
       ·cases g
      ·cases g
     ·cases g
    ·cases g
   ·cases g
  ·cases g
 case len lk=>
  refine GQ h fun x g=>?_;unfold BZ at g⊢;cases lk with
  |str=>cases hfr
  |slice=>cases hfr
  |map=>
   simp only at g⊢;have key:∀n,Vu st.h x=some n->Vu st2.h x=some n:=by
    intro n j;unfold Vu at j⊢;split at j
    ·exact j
    ·split at j
     ·rename_i e;rw[i _ _ e];exact j
     ·cases j
    ·exact j
    ·cases j
   split at g
   ·rename_i n j;cases g;rw[key _ j]
   ·cases g
 case UO=>
  refine GQ h fun x g=>?_;unfold Oy at g⊢;split at g
  ·cases g;rfl
  ·split at g
   ·rename_i e;rw[i _ _ e];simp only[Ad]at g⊢;split at g
    ·rename_i f;rw[AX f];cases g;rfl
    ·cases g
   ·cases g
  ·cases g
end
end Go.Am
namespace Go.Am
open Go Go.RowKit
variable {P:Program}
inductive lD (ops:Array Oper):Nat->Nat->Prop
 |AA3 (i:Nat) (o:Oper) (d:Edge) (ho:ops[i]? =some o) (hd:d∈o.after) (hb:Region.binds .any d=true):lD ops d.on i
 |more (j i:Nat) (o:Oper) (d:Edge) (ho:ops[i]? =some o) (hd:d∈o.after) (hb:Region.binds .any d=true) (h:lD ops j d.on):lD ops j i
def ABi:Ki->Option Nat
 |.tmp t=>some t
 |.val _=>none
def Tx(o:Dr):List Nat:=o.args.filterMap ABi++(match o.guard with|some (t,_)=>[t]|none=>[])
def fA(x y:Dr):Prop:=(∀d,x.dst=some d->d∉Tx y/\y.dst≠some d)/\(∀d,y.dst=some d->d∉Tx x)
abbrev IM:=Nat×Dr×List Nat
def NQ(k:AK):Bool:=!(JS k||IA k)
def Tw(T:Option (IM×IM))(f e:IM):Prop:=∃A B,T=some (A,B)/\((f.1=A.1/\e.1=B.1)∨(f.1=B.1/\e.1=A.1))
structure Kh (T:Option (IM×IM))(ops:Array Oper)(f e:IM):Prop where
 AA3:∀o,ops[f.1]? =some o->∀d∈o.after,Region.binds .any d=true->d.on≠e.1
 apart:fA f.2.1 e.2.1∨lD ops f.1 e.1
 eff:NQ f.2.1.k=true->lD ops f.1 e.1∨Tw T f e
 load:NQ f.2.1.k=false->NQ e.2.1.k=true->SC f.2.1.k=true∨IA f.2.1.k=true∨lD ops f.1 e.1∨(e.1∈f.2.2/\f.2.1.dst.isSome=true)
 ids:∀id,JA f.2.1.k=some id->JA e.2.1.k≠some id
structure Zd (T:Option (IM×IM))(P:Program)(X:Nat->Option Ext)(N:Nat)(GT:Nat->Option AV)(ops:Array Oper)(na:Nat)(L:List IM):Prop where
 nodup:(L.map (·.1)).Nodup
 all:∀j,j<ops.size->j∈L.map (·.1)
 elem:∀e∈L,∃o,ops[e.1]? =some o/\NK P X N GT ops o e.2.1=true/\(∀d∈o.after,Region.binds .any d=true->d.on<ops.size/\d.on≠e.1)/\(∀id,JA e.2.1.k=some id->id<na)
 pair:L.Pairwise (Kh T ops)
 lN:∀A B,T=some (A,B)->NQ B.2.1.k=true/\Kh T ops B A/\∃L0,L=L0++[A,B]
abbrev Sl:=Nat->AV
def XH(g:Sl)(d:Option Nat)(v:AV):Sl:=match d with
 |some d=>fun j=>if d=j then v else g j
 |none=>g
def qN(g:Sl):Ki->AV
 |.tmp t=>g t
 |.val v=>v
def KO(h:Option (Nat×Bool))(g:Sl):Bool:=match h with
 |none=>true
 |some (t,b)=>isBool b (g t)
theorem WK(a:TS)(l:List Ki):WL a l=l.map (qN a.get):=by
 induction l with
 |nil=>rfl
 |cons o l b=>simp only[WL,Dh,b];cases o<;>rfl
theorem Pm(h:Option (Nat×Bool))(a:TS):wanted h a=KO h a.get:=by cases h<;>rfl
theorem put_eq{N:Nat}(c:N<2^15)(a:TS){d:Option Nat}(b:∀t,d=some t->t<N)(v:AV):(put a d v).get=XH a.get d v:=by
 cases d with
 |none=>rfl
 |some d=>funext j;show (a.set d v).get j=_;have:=b d rfl;rw[TS.Xg _ _ _ _ (by omega)];rfl
theorem AAx{g:Sl}{d:Option Nat}{v:AV}{l:List Ki}(h:∀x,d=some x->x∉l.filterMap ABi):l.map (qN (XH g d v))=l.map (qN g):=by
 apply List.map_congr_left;intro o a;cases o with
 |val v=>rfl
 |tmp t=>
  cases d with
  |none=>rfl
  |some d=>have:d≠t:=fun e=>h d rfl (by subst e;exact List.mem_filterMap.2 ⟨_,a,rfl⟩);simp[qN,XH,this]
theorem fD{g:Sl}{d:Option Nat}{v:AV}{h:Option (Nat×Bool)}(a:∀x b,d=some x->h≠some (x,b)):KO h (XH g d v)=KO h g:=by
 cases h with
 |none=>rfl
 |some p=>
  obtain⟨t,b⟩:=p;cases d with
  |none=>rfl
  |some d=>have:d≠t:=fun e=>a d b rfl (by rw[e]);simp[KO,XH,this]
theorem aT{g:Sl}{d:Option Nat}{v:AV}{o:Dr}(h:∀x,d=some x->x∉Tx o):o.args.map (qN (XH g d v))=o.args.map (qN g)/\KO o.guard (XH g d v)=KO o.guard g:=by refine⟨AAx fun x a c=>h x a (KI _ c),fD fun x b a e=>h x a (OP _ ?_)⟩;rw[e];simp
theorem vk{g:Sl}{d e:Option Nat}{v u:AV}(h:∀x,d=some x->e≠some x):XH (XH g d v) e u=XH (XH g e u) d v:=by
 cases d with
 |none=>rfl
 |some d=>
  cases e with
  |none=>rfl
  |some e=>
   have a:e≠d:=fun q=>h d rfl (by rw[q]);funext j;simp only[XH];by_cases h1:e=j
   ·subst h1;simp[Aj a]
   ·simp[h1]
def chain(g:Sl):List (IM×AV)->Sl
 |[]=>g
 |(e,v)::l=>chain (XH g e.2.1.dst v) l
theorem RB(g:Sl)(l m:List (IM×AV)):chain g (l++m)=chain (chain g l) m:=by
 induction l generalizing g with
 |nil=>rfl
 |cons x l a=>exact a _
def Told(s:Nat)(st:St)(μ:Mu)(p:Na)(g:Sl)(e:IM)(v:AV):Prop:=
 (KO e.2.1.guard g=false/\v=.undef)∨(KO e.2.1.guard g=true /\
  ((JS e.2.1.k=true/\step s e.2.1.k (e.2.1.args.map (qN g)) st=some (v,st)/\(SC e.2.1.k=true∨e.2.2=[]∨e.2.1.dst.isSome=false∨(e.2.2,e.2.1.k,e.2.1.args.map (qN g),v)∈p)) ∨
   (IA e.2.1.k=true/\∃id ob,JA e.2.1.k=some id/\born s e.2.1.k (e.2.1.args.map (qN g))=some (v,ob)/\AA st.h (s+id)=some ob/\μ (s+id)=none)))
def Jz(s:Nat)(st:St)(μ:Mu)(p:Na):Sl->List (IM×AV)->Prop
 |_,[]=>True
 |g,(e,v)::l=>NQ e.2.1.k=false/\Told s st μ p g e v/\Jz s st μ p (XH g e.2.1.dst v) l
section
variable {s:Nat}{st st':St}{μ ν:Mu}{p p':Na}
theorem Jz.append{g:Sl}{l m:List (IM×AV)}:Jz s st μ p g (l++m)↔Jz s st μ p g l/\Jz s st μ p (chain g l) m:=by
 induction l generalizing g with
 |nil=>simp[Jz,chain]
 |cons x l a=>obtain⟨e,v⟩:=x;simp only[Lj,Jz,chain,a,and_assoc]
theorem Jz.map{g:Sl}{l:List (IM×AV)}(h:Jz s st μ p g l)(a:∀e v,(e,v)∈l->∀g,Told s st μ p g e v->Told s st' ν p' g e v):Jz s st' ν p' g l:=by
 induction l generalizing g with
 |nil=>trivial
 |cons x l c=>obtain⟨e,v⟩:=x;exact⟨h.1,a e v (DN ..) g h.2.1,c h.2.2 fun e v b=>a e v (Cu _ b)⟩
theorem Jz.XH{g:Sl}{l:List (IM×AV)}{d:Option Nat}{u:AV}(h:Jz s st μ p g l)(b:∀e v,(e,v)∈l->∀x,d=some x->x∉Tx e.2.1/\e.2.1.dst≠some x) :
 Jz s st μ p (Am.XH g d u) l/\chain (Am.XH g d u) l=Am.XH (chain g l) d u:=by
 induction l generalizing g with
 |nil=>exact⟨trivial,rfl⟩
 |cons x l m=>obtain⟨e,v⟩:=x;have f:=b e v (DN ..);obtain⟨n,j⟩:=aT (g:=g) (v:=u) (o:=e.2.1) fun x a=>(f x a).1;have c:=m h.2.2 fun e v k=>b e v (Cu _ k);have i:Am.XH (Am.XH g d u) e.2.1.dst v=Am.XH (Am.XH g e.2.1.dst v) d u:=vk fun x a=>(f x a).2;refine⟨⟨h.1,?_,by rw[i];exact c.1⟩,by simp only[chain];rw[i];exact c.2⟩;have:=h.2.1;unfold Told at this⊢;rw[n,j];exact this
theorem lh{i:Nat}{p:Na}{st:St}(h:Fv s i p st=true){c:List Nat}{k:AK}{args:List AV}{v:AV}(d:(c,k,args,v)∈p)(j:i∈c):∃r,step s k args st=some r/\v=r.1:=by
 induction p with
 |nil=>cases d
 |cons x p l=>
  obtain⟨f,n,b,m⟩:=x;simp only[Fv,Aq,FO,Fp]at h;rcases BK.1 d with e|e
  ·cases e;rcases h.1 with a|a
   ·exfalso;have:c.any (Nat.beq i)=true:=QS.2 ⟨i,j,by simp⟩;rw[this]at a;cases a
   ·split at a
    ·rename_i r g;exact⟨r,g,AV.beq_eq a⟩
    ·cases a
  ·exact l h.2 e
end
def zF(listed:Array Bool)(i:Nat):Prop:=listed.getD i true=false
def vK(listed:Array Bool)(i:Nat):Prop:=listed.getD i false=true
theorem xV{listed:Array Bool}{i:Nat}(a:i<listed.size):vK listed i↔¬zF listed i:=by unfold vK zF;simp only[TF,MO a,KG];cases listed[i]<;>simp
def Wm(ops:Array Oper)(listed:Array Bool):Prop:=∀i o,ops[i]? =some o->vK listed i->∀d∈o.after,Region.binds .any d=true->vK listed d.on
theorem ABO{a:Array Oper}{listed:Array Bool}(n:Wm a listed){j i:Nat}(h:lD a j i):(∀o,a[i]? =some o->∀d∈o.after,Region.binds .any d=true->vK listed d.on)->vK listed j:=by
 induction h with
 |AA3 i o d c b f=>exact fun h=>h o c d b f
 |more j i o d c b f _ m=>exact fun h=>m fun p e l k g=>n _ _ e (h o c d b f) l k g
theorem Pt{a:Array Oper}{listed:Array Bool}{i:Nat}:i∈Region.ready .any a listed↔zF listed i/\∃o,a[i]? =some o/\∀d∈o.after,Region.binds .any d=true->vK listed d.on:=mem_ready
theorem ZL{a:Array Oper}{listed:Array Bool}(p:Wm a listed){i:Nat}(n:i∈Region.ready .any a listed):Wm a (listed.setIfInBounds i true):=by
 intro j o l c d f g;have up:∀k,vK listed k->vK (listed.setIfInBounds i true) k:=fun k m=>getD_set_true m;by_cases e:j=i
 ·subst e;obtain⟨_,q,b,h⟩:=Pt.1 n;rw[l]at b;cases b;exact up _ (h d f g)
 ·have:vK listed j:=by unfold vK at c⊢;rw[getD_set_ne false (Aj e)]at c;exact c
  exact up _ (p j o l this d f g)
theorem pV{listed:Array Bool}{i j:Nat}(a:i<listed.size):zF (listed.setIfInBounds i true) j↔zF listed j/\j≠i:=by
 unfold zF;by_cases e:j=i
 ·subst e;simp[a]
 ·rw[getD_set_ne true (Aj e)];simp[e]
end Go.Am
namespace Go.Am
open Go Go.RowKit
variable {P:Program}
section
variable {G:XG P}{base:Nat}{w0:Start}{I:HY}{μ:Mu}{st:St}{w:World}{N:Nat}{ts tb:TS}{a:Act}
theorem mY{o:Oper}{v:AV}{c:St}{f:Option Nat}(h:DJ P base w0 I μ st w f (execOp a.eval o) v c):ek P o a w fun e d=>∃ν,ed base w0 I μ st f ν c d v e:=by
 intro K Q i;obtain⟨n,e,d,ν,j,b,k⟩:=h;have:=i e d ⟨ν,k⟩;unfold Oper.wp;rw[j];rcases b with b|⟨b,g⟩
 ·subst b;exact this
 ·subst b g;exact this
theorem mR{k:AK}(h:JS k=true):Yr k=false:=by cases k<;>simp[JS]at h<;>rfl
theorem um{k:AK}(h:IA k=true):Yr k=false:=by cases k<;>simp[IA]at h<;>rfl
theorem wQ{k:AK}(h:JS k=true):JA k=none:=by cases k<;>simp[JS]at h<;>rfl
theorem xh(H:CQ base w0 I μ st w)(x:Nh N I μ tb a)(B:Ht G.GT I){g:Array Oper}{o:Oper}{e:IM}(D:NK P G.X N G.GT g o e.2.1=true){s:Nat}{p:Na}{v:AV}(J:Told s st μ p tb.get e v)(n:∀id,JA e.2.1.k=some id->s+id<st.c) :
 zP P g o a w fun R y=>∃l ν,R=a.put o.dst l/\CQ base w0 I ν st y/\BO I ν v l/\μ.le ν/\∀q,(JA e.2.1.k).map (s+·)≠some q->ν q=μ q:=by
 simp only[NK,Aq,FO]at D;obtain⟨⟨W,O⟩,b⟩:=D;have A:=jB x O;rw[Pm]at A;intro K V z;rw[A];rcases J with⟨u,r⟩|⟨u,r⟩
 ·rw[AJ (by rw[u];exact Bool.false_ne_true)];exact z _ _ ⟨undef,μ,rfl,H,by rw[r];exact .tuple [] [] .nil,fun _ _ h=>h,fun _ _=>rfl⟩
 ·rw[AX u];refine .inl ?_;have key:DJ P base w0 I μ st w ((JA e.2.1.k).map (s+·)) (execOp a.eval o) v st:=by
   rcases r with⟨j,U,_⟩|⟨L,id,ob,d,t,S,F⟩
   ·rcases b with b|b
    ·rw[mR j]at b;cases b
    ·split at b
     ·rename_i Q f;have i:=RA x B b;rw[WK]at i;exact fH H G.ext f (fun _=>rfl) i (fun id d=>by rw[wQ j]at d;cases d) U
     ·cases b
   ·rcases b with b|b
    ·rw[um L]at b;cases b
    ·split at b
     ·rename_i Q f;have i:=RA x B b;rw[WK]at i;rw[d];exact jm H f i t d S F (n id d)
     ·cases b
  refine mY key K V fun l y T=>z _ _ ?_;obtain⟨ν,m⟩:=T;exact⟨l,ν,rfl,m.rel,m.val,m.le,fun q j=>m.same q (Aj j)⟩
theorem vF{E:Env}{call:Nat->List AV->St->M (AV×St)}{s:Nat}{k:AK}{args:List AV}(h:NQ k=false):Kg E call s k args st=M.FM (step s k args st):=by cases k<;>first|rfl|(simp[NQ,JS,IA]at h)
theorem AAe{E:Env}{call:Nat->List AV->St->M (AV×St)}{s:Nat}{e:IM}(t:NQ e.2.1.k=false){Q:TS×St->Prop}(h:(MK E call s e.2.1 ts st).all Q)(H:CQ base w0 I μ st w)(u:∀id,JA e.2.1.k=some id->μ (s+id)=none/\AA st.h (s+id)=none/\s+id<st.c)(n:∀d,e.2.1.dst=some d->d+1<2^16)(p:Na) :
 ∃v a,Q (put ts e.2.1.dst v,a)/\CQ base w0 I μ a w/\a.c=st.c/\a.lo=st.lo/\zQ st a/\(∀q,(JA e.2.1.k).map (s+·)≠some q->AA a.h q=AA st.h q) /\
  Told s a μ (Re e.2.1 e.2.2 ts (put ts e.2.1.dst v) p) ts.get e v:=by
 unfold MK at h;rw[Ad]at h;by_cases hw:wanted e.2.1.guard ts=true
 ·rw[AX hw,M.all_bind,vF t]at h;obtain⟨⟨v,a⟩,g,y⟩:=M.Sy h;rw[WK]at g;have i:KO e.2.1.guard ts.get=true:=by rw[←Pm];exact hw
  cases hq:JS e.2.1.k with
  |true=>
   have:=Tn hq g;subst this;refine⟨v,a,y,H,rfl,rfl,fun _ _ h=>h,fun _ _=>rfl,.inr ⟨i,.inl ⟨hq,g,?_⟩⟩⟩;by_cases m:SC e.2.1.k=true
   ·exact .inl m
   refine .inr ?_;cases hjs:e.2.2 with
   |nil=>exact .inl rfl
   |cons j P=>
    refine .inr ?_;cases hd:e.2.1.dst with
    |none=>exact .inl rfl
    |some d=>
     refine .inr ?_;simp only[Re,hw,Ba,hd];rw[WK];have:(put ts (some d) v).get d=v:=by show (ts.set d v).get d=v;rw[TS.Xg _ _ _ _ (n d hd)];simp
     rw[this];exact DN ..
  |false=>
   have z:IA e.2.1.k=true:=by simp only[NQ,hq,Bool.false_or,Bool.not_eq_false']at t;exact t
   obtain⟨id,r,D⟩:=Vf (st:=st) (s:=s) (args:=e.2.1.args.map (qN ts.get)) z;rw[D]at g;obtain⟨A,F,O⟩:=u id r;obtain⟨ob,B,L,m,N,K⟩:=eD H g A O;have b:=bC g;have f:zQ st a:=by
    intro q x o;by_cases hqe:q=s+id
    ·subst hqe;rw[F]at o;cases o
    ·rw[b q hqe];exact o
   refine⟨v,a,y,L,N,K,f,fun q l=>b q fun J=>l (by rw[r,J];rfl),.inr ⟨i,.inr ⟨z,id,ob,r,B,m,A⟩⟩⟩
 ·rw[AJ hw]at h;exact⟨.undef,st,h,H,rfl,rfl,fun _ _ h=>h,fun _ _=>rfl,.inl ⟨by rw[←Pm];simpa using hw,rfl⟩⟩
theorem gJ{o:Dr}{b:List Nat}{ts a:TS}{p:Na}{x:List Nat×AK×List AV×AV}(h:x∈p):x∈Re o b ts a p:=by
 unfold Re;split
 ·exact h
 ·rw[Ad];split
  ·split
   ·exact Cu _ h
   ·exact h
  ·exact h
theorem Told.more{s:Nat}{st a:St}{μ:Mu}{p d:Na}{g:Sl}{e:IM}{v:AV}(h:Told s st μ p g e v)(b:zQ st a)(f:∀x∈p,x∈d):Told s a μ d g e v:=by
 rcases h with h|⟨r,i⟩
 ·exact .inl h
 ·refine .inr ⟨r,?_⟩;rcases i with⟨c,n,q⟩|⟨m,id,ob,o,l,j,k⟩
  ·exact .inl ⟨c,mQ b c n,q.imp id fun h=>h.imp id fun h=>h.imp id fun h=>f _ h⟩
  ·exact .inr ⟨m,id,ob,o,l,b _ _ j,k⟩
theorem SK{X:Nat->Option Ext}{GT:Nat->Option AV}{a:Array Oper}{o:Oper}{b:Dr}(h:NK P X N GT a o b=true):o.dst=b.dst/\∀d,b.dst=some d->d<N:=by simp only[NK,Aq]at h;obtain⟨c,f⟩:=az h.1.1;exact⟨c,fun d e=>f d (c.trans e)⟩
theorem At.step{S:Nat->Prop}{J:HY}{ν:Mu}{a:St}{Q:TS×St->Prop}{d e f:Act}{g:World}(l:Nx I μ st S J ν a)(i:e.defers=d.defers)(h:At base w0 N J ν a S Q e f g):At base w0 N I μ st S Q d f g:=by obtain⟨b,c,K,ξ,n,j,k,m,o⟩:=h;exact⟨b,c,K,ξ,n,j,k,l.trans m fun p _ h=>h,o.trans i⟩
theorem oz{E:Env}{call:Nat->List AV->St->M (AV×St)}{s:Nat}{o:Dr}(d:o.args.map (qN ts.get)=o.args.map (qN tb.get))(b:KO o.guard ts.get=KO o.guard tb.get){Q:TS×St->Prop}(h:(MK E call s o ts st).all Q):(MK E call s o tb st).all fun r=>∃v,r.1=put tb o.dst v/\Q (put ts o.dst v,r.2):=by
 unfold MK at h⊢;rw[Pm,b,←Pm,Ad]at h;rw[Ad];split
 ·rename_i a;rw[AX a]at h;rw[WK,d,←WK,M.all_bind]at h;rw[M.all_bind];exact M.Sa h fun r c=>⟨r.1,rfl,c⟩
 ·rename_i a;rw[AJ a]at h;exact⟨.undef,rfl,h⟩
theorem fE{a:Array Oper}{X:Nat->Option Ext}{GT:Nat->Option AV}{s:Nat}{L rest:List IM}{T:Option (IM×IM)}(q:Zd T P X N GT a s L){listed:Array Bool}(k:listed.size=a.size){e:IM}(b:(e::rest).Sublist L)(n:∀j,j<a.size->(zF listed j↔j∈(e::rest).map (·.1))):e.1∈Region.ready .any a listed:=by
 obtain⟨o,i,_,c,_⟩:=q.elem e (b.subset (DN ..));have w:e.1<a.size:=(Io.1 i).1;refine Pt.2 ⟨(n _ w).2 (by simp),o,i,fun d l p=>?_⟩;obtain⟨r,t⟩:=c d l p;rw[xV (by rw[k];exact r)];intro u;have:=(n _ r).1 u;rw[Dh,BK]at this;rcases this with h|h
 ·exact t h
 ·obtain⟨g,v,f⟩:=BP.1 h;have m:=q.pair.sublist b;rw[Hg]at m;exact (m.1 g v).AA3 o i d l p f.symm
theorem SQ{o:Dr}:∀(l:List (IM×AV)) (g:Sl),(∀f u,(f,u)∈l->∀d,f.2.1.dst=some d->d∉Tx o)->o.args.map (qN (chain g l))=o.args.map (qN g)/\KO o.guard (chain g l)=KO o.guard g
 |[],g,_=>⟨rfl,rfl⟩
 |(f,u)::l,g,h=>by obtain⟨j,a⟩:=SQ l (XH g f.2.1.dst u) fun f u e=>h f u (Cu _ e);obtain⟨b,i⟩:=aT (g:=g) (v:=u) (o:=o) fun x c=>h f u (DN ..) x c;exact⟨j.trans b,a.trans i⟩
theorem Py{l m:List Nat}(h:(l++m).Nodup){x:Nat}(a:x∈l)(b:x∈m):False:=by rw[Mx]at h;exact h.2.2 x a x b rfl
def zO(T:Option (IM×IM))(R R2:List IM):Prop:=∃A B R0,T=some (A,B)/\R=R0++[A,B]/\R2=R0++[B,A]
def Wn(T:Option (IM×IM))(R:List IM)(Z:List IM->Prop):Prop:=Z R/\∀R2,zO T R R2->Z R2
theorem zO.cons{T:Option (IM×IM)}{e:IM}{R a:List IM}(h:zO T R a):zO T (e::R) (e::a):=by obtain⟨A,B,c,b,rfl,rfl⟩:=h;exact⟨A,B,e::c,b,rfl,rfl⟩
theorem vE{T:Option (IM×IM)}{e:IM}{a:List IM}(h:zO T [e] a):False:=by obtain⟨A,B,b,_,h,_⟩:=h;have:=Ot List.length h;simp at this
theorem M.yz{α ι:Type}{m:M α}{f:α->Prop}{c:ι->Prop}{g:ι->α->Prop}(h:m.all f)(b:∀x,c x->m.all (g x)):m.all fun a=>f a/\∀x,c x->g x a:=by
 induction m with
 |ret a=>exact⟨h,b⟩
 |fail=>exact h.elim
 |ask n k e=>exact fun i d=>e i (h i d) fun x j=>b x j i d
theorem Wn.step{E:Env}{call:Nat->List AV->St->M (AV×St)}{T:Option (IM×IM)}{s:Nat}{e:IM}{R:List IM}{p:Na}{ts:TS}{st:St}{Q:TS×St->Prop}(h:Wn T (e::R) fun R=>(Db E call s R p ts st).all Q) :
 (MK E call s e.2.1 ts st).all fun r=>Wn T R fun R=>(bif Fv s e.1 p r.2 then Db E call s R (Re e.2.1 e.2.2 ts r.1 p) r.1 r.2 else .fail).all Q:=by
 obtain⟨b,d,c⟩:=e;obtain⟨a,f⟩:=h;have a:(Db E call s ((b,d,c)::R) p ts st).all Q:=a;rw[Db,M.all_bind]at a;refine M.yz a fun j i=>?_;have g:(Db E call s ((b,d,c)::j) p ts st).all Q:=f _ i.cons;rwa [Db,M.all_bind]at g
theorem Wn.go{α:Type}{T:Option (IM×IM)}{R:List IM}{b:Bool}{m:List IM->M α}{Q:α->Prop}(h:Wn T R fun R=>(bif b then m R else .fail).all Q):b=true/\Wn T R fun R=>(m R).all Q:=by
 cases b with
 |true=>exact⟨rfl,h⟩
 |false=>exact h.1.elim
theorem Jz.quiet{s:Nat}{st:St}{μ:Mu}{p:Na}:∀{l:List (IM×AV)} {g:Sl},Jz s st μ p g l->∀{f:IM} {u:AV},(f,u)∈l->NQ f.2.1.k=false
 |[],_,_,_,_,a=>by cases a
 |(e,v)::l,_,h,f,u,a=>by
  rcases BK.1 a with q|q
  ·cases q;exact h.1
  ·exact Jz.quiet h.2.2 q
theorem rH{L a R i:List IM}{e g A B:IM}(f:(L.map (·.1)).Nodup)(p:L=i++[A,B])(n:(a++e::R).Sublist L)(o:g∈R)(h:(e.1=A.1/\g.1=B.1)∨(e.1=B.1/\g.1=A.1)):e=A/\R=[B]:=by
 subst p;have d:(e::R).Sublist (i++[A,B]):=(List.sublist_append_right a _).trans n;obtain⟨k,r,c,l,m⟩:=List.sublist_append_iff.1 d;cases k with
 |nil=>
  rw[JJ]at c;subst c;have b:[A,B].length<=(e::R).length:=by
   cases R with
   |nil=>cases o
   |cons x R=>simp
  have:=m.eq_of_length_le b;injection this with q1 q2;exact⟨q1,q2⟩
 |cons x k=>
  exfalso;rw[Lj]at c;injection c with q1 q2;subst q1;have j:e.1∈i.map (·.1):=BP.2 ⟨e,l.subset (DN ..),rfl⟩;rw[Hf]at f;rcases h with⟨q,_⟩|⟨q,_⟩
  ·exact Py f j (by rw[q];simp)
  ·exact Py f j (by rw[q];simp)
theorem AA4{call:Nat->List AV->St->M (AV×St)}(d1:MU P G.GT call){m:Array Oper}{na s:Nat}{L:List IM}{T:Option (IM×IM)}(hD:Zd T P G.X N G.GT m na L){Qx:Exit->Act->World->Prop} :
 ∀(fuel:Nat) (R:List IM) (b:List (IM×AV)) (p:Na) (tb ts:TS) (st:St) (a:Act) (w:World) (I:HY) (μ:Mu) (Q:TS×St->Prop) (listed:Array Bool),
 R.length+b.length<=fuel->(b.map (·.1)++R).Sublist L->listed.size=m.size->(∀j,j<m.size->(zF listed j↔j∈(b.map (·.1)++R).map (·.1)))->Wm m listed ->
 CQ base w0 I μ st w->st.lo<=s->s+na<=st.c->Nh N I μ tb a->Ht G.GT I->ts.get=chain tb.get b->Jz s st μ p tb.get b ->
 (∀e∈R,∀id,JA e.2.1.k=some id->μ (s+id)=none/\AA st.h (s+id)=none)->(Wn T R fun R=>(Db G.E call s R p ts st).all Q) ->
 (∀a' w',At base w0 N I μ st (s<=·) Q a a' w'->Qx .normal a' w')->wpAny P .any m Qx fuel listed a w:=by
 intro fuel;induction fuel with
 |zero=>
  intro R b p tb ts st a w I μ Q listed F n S hl a0 H a4 a5 W hG O K D h hQ;have hR:R=[]:=Gn (by omega);have hL:b=[]:=Gn (by omega);subst hR hL;refine⟨?_,hQ a w ⟨ts,st,I,μ,h.1,H,⟨W.size,W.small,fun t ht=>?_⟩,Nx.refl _ _ _ _,rfl⟩⟩
  ·rw[List.eq_nil_iff_forall_not_mem];intro j hj;obtain⟨hu,o,ho,_⟩:=Pt.1 hj;have:=(hl j (Io.1 ho).1).1 hu;simp at this
  ·rw[O];exact W.get t ht
 |succ fuel IH=>
  have e7:∀(e:IM) (R:List IM) (b:List (IM×AV)) (p:Na) (tb ts:TS) (st:St) (a:Act) (w:World) (I:HY) (μ:Mu) (Q:TS×St->Prop) (listed:Array Bool),NQ e.2.1.k=true->e∈L ->
   R.length+b.length<=fuel->(b.map (·.1)++R).Sublist L->((b.map (·.1)++e::R).map (·.1)).Nodup->listed.size=m.size->(∀j,j<m.size->(zF listed j↔j∈(b.map (·.1)++e::R).map (·.1)))->Wm m listed ->
   CQ base w0 I μ st w->st.lo<=s->s+na<=st.c->Nh N I μ tb a->Ht G.GT I->ts.get=chain tb.get b->Jz s st μ p tb.get b ->
   (∀f∈e::R,∀id,JA f.2.1.k=some id->μ (s+id)=none/\AA st.h (s+id)=none) ->
   ((MK G.E call s e.2.1 ts st).all fun r=>Wn T R fun R=>(bif Fv s e.1 p r.2 then Db G.E call s R (Re e.2.1 e.2.2 ts r.1 p) r.1 r.2 else .fail).all Q) ->
   (∀a' w',At base w0 N I μ st (s<=·) Q a a' w'->Qx .normal a' w')->(∀f u,(f,u)∈b->Kh T m f e)->(∀f∈R,Kh T m e f)->(∀f u,(f,u)∈b->¬lD m f.1 e.1)->e.1∈Region.ready .any m listed ->
   wpOp P m Qx e.1 (wpAny P .any m Qx fuel (listed.setIfInBounds e.1 true)) a w:=by
   intro e R b p tb ts st a w I μ Q listed a9 e9 F n a6 S hl a0 H a4 a5 W hG O K D h hQ b3 a1 c7 hi;obtain⟨hu,o,ho,b5⟩:=Pt.1 hi;have b6:e.1<m.size:=(Io.1 ho).1;have b9:=ZL a0 hi;unfold wpOp;simp only[ho];have V:∀f u,(f,u)∈b->fA f.2.1 e.2.1:=fun f u l=>(b3 f u l).apart.resolve_right (c7 f u l);obtain⟨c1,c2⟩:=SQ (o:=e.2.1) b tb.get fun f u l d hd=>((V f u l).1 d hd).1;obtain⟨o',Y,hc,_,U⟩:=hD.elem e e9;rw[ho]at Y;cases Y;obtain⟨d5,a8⟩:=SK hc;obtain⟨e1,e2,e3⟩:=e;have h':=oz (tb:=tb) (by rw[O];exact c1) (by rw[O];exact c2) h;refine qb d1 H (by omega) W hG hc (fun id y=>⟨(D _ (DN ..) id y).1,by have:=U id y;omega,by omega⟩) h' _ Qx fun a' w' hr=>?_;obtain⟨f9,d3,J,ν,⟨v,g1,g2⟩,H',f2,hN,f3⟩:=hr;simp only at g1 g2;subst g1;obtain⟨f4,g2⟩:=Wn.go g2
   ·skip;obtain⟨u1,u2⟩:=Jz.XH (u:=v) K (d:=e2.dst) fun f u l x hx=>⟨(V f u l).2 x hx,fun d4=>((V f u l).1 x d4).2 hx⟩;have Qw:=put_eq W.small tb a8 v;have b4:=put_eq W.small ts a8 v;have b2:∀f,Kh T m f (e1,e2,e3)∨Kh T m (e1,e2,e3) f->∀id,JA f.2.1.k=some id->¬(JA e2.k).map (s+·)=some (s+id):=fun f l id y q=>by
     obtain⟨a7,q1,q2⟩:=Gf.1 q;have:a7=id:=by omega
     subst this;rcases l with l|l
     ·exact l.ids _ y q1
     ·exact l.ids _ q1 y
    have b7:∀f,f∈L->∀id,JA f.2.1.k=some id->s+id<st.c:=fun f l id y=>by obtain⟨_,_,_,_,q⟩:=hD.elem f l;have:=q id y;omega
    refine IH R b (Re e2 e3 ts (put ts e2.dst v) p) (put tb e2.dst v) (put ts e2.dst v) d3 a' w' J ν Q _ (by omega) n (by simp[S]) (fun j hj=>?_) b9 H'
     (by rw[hN.lo];exact a4) (DV a5 hN.c) f2 (hG.mono hN.PM) ?_ ?_ (fun f l id y=>?_) g2 fun a2 w2 hr=>hQ a2 w2 ?_
    ·rw[pV (by rw[S];exact b6),hl j hj];simp only[Hf,Dh,Ca,BK]at a6⊢;rw[Mx,Js]at a6;obtain⟨n1,⟨n2,n3⟩,n4⟩:=a6;constructor
     ·rintro⟨z,h2⟩;rcases z with z|z|z
      ·exact .inl z
      ·exact absurd z h2
      ·exact .inr z
     ·intro z;refine⟨?_,fun d6=>?_⟩
      ·rcases z with z|z
       ·exact .inl z
       ·exact .inr (.inr z)
      ·subst d6;rcases z with z|z
       ·exact n4 _ z _ (DN ..) rfl
       ·exact n2 z
    ·rw[Qw,b4,u2,O]
    ·rw[Qw];refine u1.map fun f u l g ht=>?_;rcases ht with ht|⟨t1,t2⟩
     ·exact .inl ht
     ·refine .inr ⟨t1,?_⟩;rcases t2 with⟨t2,t3,t4⟩|⟨d0,id,ob,t3,t4,t5,t6⟩
      ·refine .inl ⟨t2,?_,t4.imp id fun t=>t.imp id fun t=>t.imp id fun t=>gJ t⟩;rcases (b3 f u l).load (K.quiet l) a9 with q|q|q|⟨q,q'⟩
       ·exact Yw q t3
       ·exfalso;revert q t2;cases f.2.1.k<;>simp[IA,JS]
       ·exact absurd q (c7 f u l)
       ·rcases t4 with t4|t4|t4|t4
        ·exact Yw t4 t3
        ·rw[t4]at q;cases q
        ·rw[t4]at q';cases q'
        ·obtain⟨r,r1,r2⟩:=lh f4 t4 q;obtain⟨r',g4⟩:=r;have:=Tn t2 r1;simp only at r2 this;subst r2 this;exact r1
      ·have c6:=n.subset (KI _ (BP.2 ⟨(f,u),l,rfl⟩));exact .inr ⟨d0,id,ob,t3,t4,by rw[hN.kept _ (b7 f c6 id t3) (b2 f (.inl (b3 f u l)) id t3) t6];exact t5,by rw[hN.same _ (b7 f c6 id t3) (b2 f (.inl (b3 f u l)) id t3)];exact t6⟩
    ·have c6:=n.subset (OP _ l);obtain⟨q1,q2⟩:=D f (Cu _ l) id y;have d7:=b2 f (.inr (a1 f l)) id y;exact⟨by rw[hN.same _ (b7 f c6 id y) d7];exact q1,by rw[hN.kept _ (b7 f c6 id y) d7 q1];exact q2⟩
    ·refine At.step (hN.mono fun q _ e'=>?_) f3 hr;obtain⟨a7,_,q2⟩:=Gf.1 e';show s<=q;omega
  have real:∀(R:List IM) (b:List (IM×AV)) (p:Na) (tb ts:TS) (st:St) (a:Act) (w:World) (I:HY) (μ:Mu) (Q:TS×St->Prop) (listed:Array Bool),(∀e R',R=e::R'->NQ e.2.1.k=true) ->
   R.length+b.length<=fuel+1->(b.map (·.1)++R).Sublist L->listed.size=m.size->(∀j,j<m.size->(zF listed j↔j∈(b.map (·.1)++R).map (·.1)))->Wm m listed ->
   CQ base w0 I μ st w->st.lo<=s->s+na<=st.c->Nh N I μ tb a->Ht G.GT I->ts.get=chain tb.get b->Jz s st μ p tb.get b ->
   (∀e∈R,∀id,JA e.2.1.k=some id->μ (s+id)=none/\AA st.h (s+id)=none)->(Wn T R fun R=>(Db G.E call s R p ts st).all Q) ->
   (∀a' w',At base w0 N I μ st (s<=·) Q a a' w'->Qx .normal a' w')->wpAny P .any m Qx (fuel+1) listed a w:=by
   intro R b p tb ts st a w I μ Q listed e4 F n S hl a0 H a4 a5 W hG O K D h hQ;have a6:((b.map (·.1)++R).map (·.1)).Nodup:=hD.nodup.sublist (n.map _);have Z:=hD.pair.sublist n;refine⟨fun hr=>?_,fun i hi=>?_⟩
   ·cases hE:b.map (·.1)++R with
    |nil=>
     obtain⟨hL,hR⟩:=List.append_eq_nil_iff.1 hE;have hL:b=[]:=by simpa using hL
     subst hR hL;exact hQ a w ⟨ts,st,I,μ,h.1,H,⟨W.size,W.small,fun t ht=>by rw[O];exact W.get t ht⟩,Nx.refl _ _ _ _,rfl⟩
    |cons e rest=>have:=fE hD S (hE▸n) (hE▸hl);rw[hr]at this;cases this
   ·obtain⟨hu,o,ho,b5⟩:=Pt.1 hi;have b6:i<m.size:=(Io.1 ho).1;have hm:=(hl i b6).1 hu;have b9:=ZL a0 hi;have e6:∀j,lD m j i->vK listed j:=fun j hb=>ABO a0 hb fun o' Y d hd hb=>by rw[ho]at Y;cases Y;exact b5 d hd hb
    have a3:∀j,j∈(b.map (·.1)++R).map (·.1)->¬lD m j i:=fun j hj hb=>by
     have d8:j<m.size:=by obtain⟨g,hg,rfl⟩:=BP.1 hj;obtain⟨o',Y,_⟩:=hD.elem g (n.subset hg);exact (Io.1 Y).1
     exact (xV (by rw[S];exact d8)).1 (e6 j hb) ((hl j d8).2 hj)
    unfold wpOp;simp only[ho];rw[Hf,Ca]at hm;rcases hm with hm|hm
    ·obtain⟨e',f0,c4⟩:=BP.1 hm;obtain⟨⟨e,v⟩,c9,rfl⟩:=BP.1 f0;simp only at c4;subst c4;obtain⟨l1,l2,rfl⟩:=List.append_of_mem c9;obtain⟨f1,e5⟩:=Jz.append.1 K;have b3:∀f u,(f,u)∈l1->Kh T m f e:=fun f u l=>by simp only[Hf,Dh,Hz,Lj]at Z;rw[OM]at Z;exact Z.2.2 f (BP.2 ⟨_,l,rfl⟩) e (DN ..)
     have a1:∀f,(∃u,(f,u)∈l2)∨f∈R->Kh T m e f:=fun f l=>by
      simp only[Hf,Dh,Hz,Lj]at Z;rw[OM,Hg]at Z;refine Z.2.1.1 f (Ca.2 ?_);rcases l with⟨u,l⟩|l
      ·exact .inl (BP.2 ⟨_,l,rfl⟩)
      ·exact .inr l
     have V:∀f u,(f,u)∈l1->fA f.2.1 e.2.1:=fun f u l=>(b3 f u l).apart.resolve_right (a3 _ (BP.2 ⟨f,KI _ (BP.2 ⟨(f,u),KI _ l,rfl⟩),rfl⟩));obtain⟨c1,c2⟩:=SQ (o:=e.2.1) l1 tb.get fun f u l d hd=>((V f u l).1 d hd).1;have b1:Told s st μ p tb.get e v:=by have:=e5.2.1;unfold Told at this⊢;rw[c1,c2]at this;exact this
     obtain⟨o',Y,hc,_,U⟩:=hD.elem e (n.subset (KI _ (BP.2 ⟨_,c9,rfl⟩)));rw[ho]at Y;cases Y;obtain⟨d5,a8⟩:=SK hc;refine xh H W hG hc b1 (fun id y=>by have:=U id y;omega) _ Qx fun a' w' hr=>?_;obtain⟨rv,ν,rfl,H',hv,e0,c3⟩:=hr;obtain⟨u1,u2⟩:=Jz.XH (u:=v) f1 (d:=e.2.1.dst) fun f u l x hx=>⟨(V f u l).2 x hx,fun d4=>((V f u l).1 x d4).2 hx⟩;have Qw:=put_eq W.small tb a8 v;have b8:∀f,Kh T m f e∨Kh T m e f->∀id,JA f.2.1.k=some id->ν (s+id)=μ (s+id):=fun f l id y=>c3 _ fun q=>by
      obtain⟨a7,q1,q2⟩:=Gf.1 q;have:a7=id:=by omega
      subst this;rcases l with l|l
      ·exact l.ids _ y q1
      ·exact l.ids _ q1 y
     have c5:∀f,Kh T m f e∨Kh T m e f->∀u g,Told s st μ p g f u->Told s st ν p g f u:=fun f l u g ht=>by
      rcases ht with ht|⟨t1,t2⟩
      ·exact .inl ht
      ·refine .inr ⟨t1,?_⟩;rcases t2 with t2|⟨d0,id,ob,t3,t4,t5,t6⟩
       ·exact .inl t2
       ·exact .inr ⟨d0,id,ob,t3,t4,t5,by rw[b8 f l id t3];exact t6⟩
     have f5:((l1++l2).map (·.1)++R).Sublist ((l1++(e,v)::l2).map (·.1)++R):=by simp only[Hf,Dh,Hz];exact List.Sublist.append_left (List.sublist_cons_self _ _) _
     refine IH R (l1++l2) p (put tb e.2.1.dst v) ts st _ w' I ν Q _ (by simp at F⊢;omega) (f5.trans n) (by simp[S]) (fun j hj=>?_) b9 H' a4 a5 ?_ hG ?_ ?_ (fun f l id y=>?_) h fun a2 w2 hr=>hQ a2 w2 ?_
     ·rw[pV (by rw[S];exact b6),hl j hj];simp only[Hf,Dh,Ca,BK,Mv]at a6⊢;rw[Hz,Mx,Lj,Js]at a6;obtain⟨n1,⟨n2,n3⟩,n4⟩:=a6;constructor
      ·rintro⟨z,h2⟩;rcases z with (z|z|z)|z
       ·exact .inl (.inl z)
       ·exact absurd z h2
       ·exact .inl (.inr z)
       ·exact .inr z
      ·intro z;refine⟨?_,fun d6=>?_⟩
       ·rcases z with (z|z)|z
        ·exact .inl (.inl z)
        ·exact .inl (.inr (.inr z))
        ·exact .inr z
       ·subst d6;rcases z with (z|z)|z
        ·exact n4 _ z _ (DN ..) rfl
        ·exact n2 (Ca.2 (.inl z))
        ·exact n2 (Ca.2 (.inr z))
     ·rw[d5];exact (W.mono (HY.le_refl I) e0).put hv a8
     ·rw[Qw,RB,u2,O,RB];rfl
     ·rw[Qw];refine Jz.append.2 ⟨u1.map fun f u l g ht=>c5 f (.inl (b3 f u l)) u g ht,?_⟩;rw[u2];exact e5.2.2.map fun f u l g ht=>c5 f (.inr (a1 f (.inl ⟨u,l⟩))) u g ht
     ·rw[b8 f (.inr (a1 f (.inr l))) id y];exact D f l id y
     ·refine At.step ⟨HY.le_refl I,e0,fun q _ hq=>c3 q fun e'=>?_,Ao _,rfl,fun _ _ _ _=>rfl⟩ (put_defers _ _ _) hr;obtain⟨a7,_,q2⟩:=Gf.1 e';exact hq (by show s<=q;omega)
    ·cases R with
     |nil=>cases hm
     |cons e R=>
      have a9:=e4 e R rfl;have b0:=Z;rw[OM,Hg]at b0;have c7:∀f u,(f,u)∈b->¬lD m f.1 i:=fun f u l=>a3 _ (BP.2 ⟨f,KI _ (BP.2 ⟨(f,u),l,rfl⟩),rfl⟩);by_cases c4:i=e.1
      ·subst c4;have key:=e7 e R b p tb ts st a w I μ Q listed a9 (n.subset (OP _ (DN ..))) (by simp at F;omega) (List.Sublist.trans (List.Sublist.append_left (List.sublist_cons_self _ _) _) n) a6 S hl a0 H a4 a5 W hG O K D h.step hQ
        (fun f u l=>b0.2.2 f (BP.2 ⟨_,l,rfl⟩) e (DN ..)) (fun f l=>b0.2.1.1 f l) c7 hi
       unfold wpOp at key;simp only[ho]at key;exact key
      ·rw[Dh,BK]at hm;obtain⟨g,hg,rfl⟩:=BP.1 (hm.resolve_left c4);rcases (b0.2.1.1 g hg).eff a9 with hb|⟨A,B,hT,f8⟩
       ·exact absurd hb (a3 e.1 (BP.2 ⟨e,OP _ (DN ..),rfl⟩))
       ·obtain⟨hB,f7,L0,hL⟩:=hD.lN A B hT;obtain⟨rfl,rfl⟩:=rH hD.nodup hL n hg f8;obtain rfl:=Di.1 hg;have h2:=h.2 [g,e] ⟨e,g,[],hT,rfl,rfl⟩;obtain⟨g1,g2,g3⟩:=g;rw[Db,M.all_bind]at h2;have key:=e7 (g1,g2,g3) [e] b p tb ts st a w I μ Q listed hB (n.subset (OP _ (by simp))) (by simp at F⊢;omega) (List.Sublist.trans (List.Sublist.append_left (by simp) _) n) ((List.Perm.nodup_iff (List.Perm.map _ (List.Perm.append_left _ (List.Perm.swap _ _ _)))).1 a6) S (fun j hj=>by
         rw[hl j hj]
         simp only[Hf,Dh,List.map_nil,Ca,BK,Ju,Jp]
         constructor
         ·rintro (q|q|q)
          ·exact .inl q
          ·exact .inr (.inr q)
          ·exact .inr (.inl q)
         ·rintro (q|q|q)
          ·exact .inl q
          ·exact .inr (.inr q)
          ·exact .inr (.inl q)) a0 H a4 a5 W hG O K (fun f l=>D f (by simpa [or_comm]using l)) (M.Sa h2 fun r hr=>⟨hr,fun R2 hs=>(vE hs).elim⟩) hQ
         (fun f u l=>b0.2.2 f (BP.2 ⟨_,l,rfl⟩) _ (by simp)) (fun f l=>by obtain rfl:=Di.1 l;exact f7) c7 hi
        unfold wpOp at key;simp only[ho]at key;exact key
  intro R;induction R with
  |nil=>intro b p tb ts st a w I μ Q listed;exact real [] b p tb ts st a w I μ Q listed (fun e R' h=>by cases h)
  |cons e R f6=>
   intro b p tb ts st a w I μ Q listed F n S hl a0 H a4 a5 W hG O K D h hQ;cases a9:NQ e.2.1.k with
   |true=>exact real (e::R) b p tb ts st a w I μ Q listed (fun e' R' h=>by cases h;exact a9) F n S hl a0 H a4 a5 W hG O K D h hQ
   |false=>
    have Z:=hD.pair.sublist n;have a1:∀f∈R,Kh T m e f:=fun f l=>by rw[OM,Hg]at Z;exact Z.2.1.1 f l
    obtain⟨o,ho,hc,_,U⟩:=hD.elem e (n.subset (OP _ (DN ..)));obtain⟨d5,a8⟩:=SK hc;have g0:=W.small;obtain⟨e1,e2,e3⟩:=e;obtain⟨v,d3,g2,H',d9,e8,d2,c0,b1⟩:=AAe (e:=(e1,e2,e3)) a9 h.step H (fun id y=>by
     obtain⟨q1,q2⟩:=D _ (DN ..) id y
     exact⟨q1,q2,by have:=U id y;omega⟩) (fun d hd=>by have:=a8 d hd;omega) p
    simp only at g2;obtain⟨_,g2⟩:=Wn.go g2
    ·have b4:=put_eq W.small ts a8 v;have c8:(b++[((e1,e2,e3),v)]).map (·.1)++R=b.map (·.1)++(e1,e2,e3)::R:=by simp
     refine f6 (b++[((e1,e2,e3),v)]) (Re e2 e3 ts (put ts e2.dst v) p) tb (put ts e2.dst v) d3 a w I μ Q listed (by simp at F⊢;omega) (by rw[c8];exact n) S (by rw[c8];exact hl) a0 H' (by rw[e8];exact a4) (by rw[d9];exact a5) W hG ?_ ?_ (fun f l id y=>?_) g2 fun a2 w2 hr=>hQ a2 w2 ?_
     ·rw[b4,RB,O];rfl
     ·refine Jz.append.2 ⟨K.map fun f u l g ht=>ht.more d2 fun x hx=>gJ hx,a9,?_,trivial⟩;rw[←O];exact b1
     ·obtain⟨q1,q2⟩:=D f (Cu _ l) id y;refine⟨q1,?_⟩;rw[c0 _ fun q=>?_]
      ·exact q2
      ·obtain⟨a7,q3,q4⟩:=Gf.1 q;have:a7=id:=by omega
       subst this;exact (a1 f l).ids _ q3 y
     ·refine At.step ⟨HY.le_refl I,fun _ _ h=>h,fun _ _ _=>rfl,by rw[d9];exact Ao _,e8,fun q _ hq _=>c0 q fun e'=>?_⟩ rfl hr;obtain⟨a7,_,q2⟩:=Gf.1 e';exact hq (by show s<=q;omega)
end
end Go.Am
namespace Go.Am
open Go Go.RowKit
variable {P:Program}
def look(i:Nat):List (Nat×Nat)->Nat
 |[]=>0
 |(j,m)::l=>bif Nat.beq j i then m else look i l
def Tv(acc:List (Nat×Nat)):List Edge->Nat
 |[]=>0
 |d::l=>bif Region.binds .any d then (Tv acc l ||| (2^d.on)) ||| look d.on acc else Tv acc l
def Ud(x:Nat):List Nat->Bool
 |[]=>false
 |y::l=>Nat.beq y x||Ud x l
theorem Pz{x:Nat}{l:List Nat}:Ud x l=true↔x∈l:=by
 induction l with
 |nil=>simp[Ud]
 |cons y l a=>
  simp only[Ud,FO,a,BK,beq_eq,Aw];constructor
  ·rintro (h|h)
   ·exact .inl h.symm
   ·exact .inr h
  ·rintro (h|h)
   ·exact .inl h.symm
   ·exact .inr h
def eP(x y:Dr):Bool:=
 (match x.dst with|some d=>!Ud d (Tx y)&&(match y.dst with|some e=>!Nat.beq e d|none=>true)|none=>true) &&
 (match y.dst with|some d=>!Ud d (Tx x)|none=>true)
theorem bD{x y:Dr}(h:eP x y=true):fA x y:=by
 simp only[eP,Aq]at h;obtain⟨a,b⟩:=h;refine⟨fun d e=>?_,fun d e=>?_⟩
 ·rw[e]at a;simp only[Aq,Fp]at a;refine⟨fun c=>?_,fun f=>?_⟩
  ·rw[Pz.2 c]at a;cases a.1
  ·rw[f]at a;simp at a
 ·rw[e]at b;simp only[Fp]at b;intro c;rw[Pz.2 c]at b;cases b
def AC9(a b:AK):Bool:=match JA a,JA b with
 |some i,some j=>!Nat.beq i j
 |_,_=>true
theorem AAj{a b:AK}(h:AC9 a b=true):∀id,JA a=some id->JA b≠some id:=by intro id c d;unfold AC9 at h;rw[c,d]at h;simp at h
def twB(T:Option (IM×IM))(f e:IM):Bool:=match T with
 |none=>false
 |some (A,B)=>(Nat.beq f.1 A.1&&Nat.beq e.1 B.1)||(Nat.beq f.1 B.1&&Nat.beq e.1 A.1)
theorem ACH{T:Option (IM×IM)}{f e:IM}(h:twB T f e=true):Tw T f e:=by
 unfold twB at h;split at h
 ·cases h
 ·rename_i A B;simp only[beq_eq,FO,Aq,Aw]at h;exact⟨A,B,rfl,h⟩
def pE(T:Option (IM×IM))(ops:Array Oper)(e:IM)(m:Nat)(f:IM):Bool:=
 let b:=m.testBit f.1
 (match ops[f.1]? with|some o=>o.after.toList.all fun d=>!Region.binds .any d||!Nat.beq d.on e.1|none=>true) &&
 (b||(twB T f e&&(eP f.2.1 e.2.1&&NQ f.2.1.k))||(eP f.2.1 e.2.1&&!NQ f.2.1.k&&(!NQ e.2.1.k||SC f.2.1.k||IA f.2.1.k||(Ud e.1 f.2.2&&f.2.1.dst.isSome)))) &&
 AC9 f.2.1.k e.2.1.k&&!Nat.beq f.1 e.1
theorem gK{T:Option (IM×IM)}{c:Array Oper}{e f:IM}{m:Nat}(j:∀b,m.testBit b=true->lD c b e.1)(k:pE T c e m f=true):Kh T c f e/\f.1≠e.1:=by
 simp only[pE,Aq,FO,Fp]at k;obtain⟨⟨⟨h,a⟩,p⟩,n⟩:=k;refine⟨⟨fun s i d o r=>?_,?_,fun g=>?_,fun l g=>?_,AAj p⟩,fun q=>?_⟩
 ·rw[i]at h;simp only[Fj,FO,Fp]at h;have:=h d (by simpa using o);rw[r]at this;simp only[Bool.true_eq_false,false_or,beq_eq,Ji]at this;exact this
 ·rcases a with (a|a)|a
  ·exact .inr (j _ a)
  ·exact .inl (bD a.2.1)
  ·exact .inl (bD a.1.1)
 ·rcases a with (a|a)|a
  ·exact .inl (j _ a)
  ·exact .inr (ACH a.1)
  ·rw[a.1.2]at g;cases g
 ·rcases a with (a|a)|⟨_,a⟩
  ·exact .inr (.inr (.inl (j _ a)))
  ·rw[a.2.2]at l;cases l
  ·rcases a with ((a|a)|a)|a
   ·rw[a]at g;cases g
   ·exact .inl a
   ·exact .inr (.inl a)
   ·exact .inr (.inr (.inr ⟨Pz.1 a.1,a.2⟩))
 ·rw[q]at n;simp at n
def jR(T:Option (IM×IM))(P:Program)(X:Nat->Option Ext)(N:Nat)(GT:Nat->Option AV)(ops:Array Oper)(na:Nat):List IM->List (Nat×Nat)->List IM->Bool
 |_,_,[]=>true
 |pre,acc,e::l=>
  (match ops[e.1]? with
  |some o=>
   let m:=Tv acc o.after.toList
   NK P X N GT ops o e.2.1&&(o.after.toList.all fun d=>!Region.binds .any d||(Nat.blt d.on ops.size&&!Nat.beq d.on e.1)) &&
   (match JA e.2.1.k with|some id=>Nat.blt id na|none=>true)&&pre.all (pE T ops e m)&&jR T P X N GT ops na (e::pre) ((e.1,m)::acc) l
  |none=>false)
def VF(P:Program)(X:Nat->Option Ext)(N:Nat)(GT:Nat->Option AV)(ops:Array Oper)(na:Nat)(L:List IM):Bool:=
 jR none P X N GT ops na [] [] L&&Nat.beq L.length ops.size&&(List.range ops.size).all fun j=>Ud j (L.map (·.1))
def VD(P:Program)(X:Nat->Option Ext)(N:Nat)(GT:Nat->Option AV)(ops:Array Oper)(na:Nat)(L:List IM)(x y:IM):Bool:=
 jR (some (x,y)) P X N GT ops na [] [] (L++[x,y])&&Nat.beq (L++[x,y]).length ops.size&&((List.range ops.size).all fun j=>Ud j ((L++[x,y]).map (·.1)))&&(NQ y.2.1.k&&pE (some (x,y)) ops x 0 y)
theorem xS{i b:Nat}{a:List (Nat×Nat)}(h:(look i a).testBit b=true):∃m,(i,m)∈a/\m.testBit b=true:=by
 induction a with
 |nil=>simp[look]at h
 |cons x a c=>
  obtain⟨j,m⟩:=x;simp only[look,beq_eq,Ad,Aw]at h;split at h
  ·rename_i e;subst e;exact⟨m,DN ..,h⟩
  ·obtain⟨g,f,d⟩:=c h;exact⟨g,Cu _ f,d⟩
theorem Vr{a:Array Oper}{c:List (Nat×Nat)}(k:∀j m,(j,m)∈c->∀b,m.testBit b=true->lD a b j){i b:Nat}{o:Oper}(e:a[i]? =some o):∀{l:List Edge},(∀d∈l,d∈o.after)->(Tv c l).testBit b=true->lD a b i
 |[],_,h=>by simp[Tv]at h
 |d::l,f,h=>by
  simp only[Tv,Ad]at h;split at h
  ·rename_i n;simp only[Hw,FO]at h;rcases h with (h|h)|h
   ·exact Vr k e (fun d g=>f d (Cu _ g)) h
   ·rw[Nat.testBit_two_pow]at h;have h:d.on=b:=by simpa using h
    subst h;exact .AA3 i o d e (f d (DN ..)) n
   ·obtain⟨m,q,p⟩:=xS h;exact .more b i o d e (f d (DN ..)) n (k _ _ q b p)
  ·exact Vr k e (fun d g=>f d (Cu _ g)) h
theorem ZH{T:Option (IM×IM)}{X:Nat->Option Ext}{N u:Nat}{GT:Nat->Option AV}{a:Array Oper}:∀(l c:List IM) (g:List (Nat×Nat)),(∀j m,(j,m)∈g->∀b,m.testBit b=true->lD a b j)->jR T P X N GT a u c g l=true ->
 (∀e∈l,∃o,a[e.1]? =some o/\NK P X N GT a o e.2.1=true/\(∀d∈o.after,Region.binds .any d=true->d.on<a.size/\d.on≠e.1)/\(∀id,JA e.2.1.k=some id->id<u)) /\
 (∀f∈c,∀e∈l,Kh T a f e/\f.1≠e.1)/\l.Pairwise fun f e=>Kh T a f e/\f.1≠e.1
 |[],c,g,_,_=>⟨by simp,by simp,.nil⟩
 |e::l,c,g,z,h=>by
  simp only[jR]at h;split at h
  ·rename_i o w;simp only[Aq,Fj,FO,Fp]at h;obtain⟨⟨⟨⟨D,A⟩,n⟩,B⟩,F⟩:=h;have y:∀b,(Tv g o.after.toList).testBit b=true->lD a b e.1:=fun b r=>Vr z w (fun d p=>by simpa using p) r;obtain⟨H,t,J⟩:=ZH l (e::c) _ (fun j m I=>by
    rcases BK.1 I with q|q
    ·cases q;exact y
    ·exact z j m q) F
   refine⟨fun x i=>?_,fun f v x i=>?_,?_⟩
   ·rcases BK.1 i with q|q
    ·subst q;refine⟨o,w,D,fun d p r=>?_,fun id s=>?_⟩
     ·have:=A d (by simpa using p);rw[r]at this;simp only[Bool.true_eq_false,false_or,blt_eq,Aw,beq_eq,Ji]at this;exact this
     ·rw[s]at n;simp only at n;rw[blt_eq]at n;simpa using n
    ·exact H x q
   ·rcases BK.1 i with q|q
    ·subst q;exact gK y (B f v)
    ·exact t f (Cu _ v) x q
   ·exact Hg.2 ⟨fun x i=>t e (DN ..) x i,J⟩
  ·cases h
theorem oV{X:Nat->Option Ext}{N c:Nat}{GT:Nat->Option AV}{a:Array Oper}{L:List IM}(h:VF P X N GT a c L=true):Zd none P X N GT a c L:=by
 simp only[VF,Aq]at h;obtain⟨⟨e,k⟩,g⟩:=h;obtain⟨f,l,d⟩:=ZH L [] [] (fun j m h=>by cases h) e;have b:(L.map (·.1)).Nodup:=by rw[List.Nodup,List.pairwise_map];exact d.imp fun h=>h.2
 exact⟨b,fun j i=>Pz.1 (Fj.1 g j (Gd.2 i)),f,d.imp fun h=>h.1,fun A B h=>by cases h⟩
theorem oP{X:Nat->Option Ext}{N d:Nat}{GT:Nat->Option AV}{a:Array Oper}{L:List IM}{x y:IM}(h:VD P X N GT a d L x y=true):Zd (some (x,y)) P X N GT a d (L++[x,y]):=by
 simp only[VD,Aq]at h;obtain⟨⟨⟨n,p⟩,g⟩,l,o⟩:=h;obtain⟨f,q,e⟩:=ZH (L++[x,y]) [] [] (fun j m h=>by cases h) n;have c:((L++[x,y]).map (·.1)).Nodup:=by rw[List.Nodup,List.pairwise_map];exact e.imp fun h=>h.2
 refine⟨c,fun j k=>Pz.1 (Fj.1 g j (Gd.2 k)),f,e.imp fun h=>h.1,fun A B h=>?_⟩;cases h;exact⟨l,(gK (fun b i=>by simp at i) o).1,L,rfl⟩
theorem ae{i j:Nat}{a b:BJ}(c:i≠j):∀h:Aa,Ah (Ah h i a) j b=Ah (Ah h j b) i a
 |[]=>rfl
 |(k,x)::h=>by
  by_cases h1:k=i
  ·subst h1;have e:Nat.beq k j=false:=by rw[beq_eq];simpa using c
   simp[Ah,e]
  ·have d:Nat.beq k i=false:=by rw[beq_eq];simpa using h1
   by_cases e:k=j
   ·subst e;simp[Ah,d]
   ·have f:Nat.beq k j=false:=by rw[beq_eq];simpa using e
    simp[Ah,d,f,ae c h]
theorem lF{m j s p:Nat}{a b:List AV}{st g i:St}(f:m≠j)(d:CO st m s a=some g)(c:CO g j p b=some i) :
 ∃e,CO st j p b=some e/\CO e m s a=some i:=by
 unfold CO at d;rw[Ad]at d;split at d
 ·cases d
 rename_i x;split at d
 ·rename_i w y v A q;rw[Ad]at d;split at d
  ·rename_i t;cases d;unfold CO at c;rw[Ad]at c;split at c
   ·cases c
   rename_i r;split at c
   ·rename_i o n l z k;rw[Ad]at c;split at c
    ·rename_i u;cases c;simp only at k r;rw[JU _ _ _ (by rw[q];rfl),AJ f]at k;refine⟨{ st with h:=Ah st.h j (.cells o n (Bl l p b) z) },?_,?_⟩
     ·unfold CO;rw[Ad,AJ r,k];simp only;rw[Ad,AX u]
     ·unfold CO;rw[Ad,AJ x];simp only;rw[JU _ _ _ (by rw[k];rfl),AJ (Aj f),q];simp only;rw[Ad,AX t,ae (Aj f)]
    ·cases c
   ·cases c
  ·cases d
 ·cases d
theorem lg{l n h g p o:Nat}{m j i k:AV}{st d e:St}(f:h≠g)(c:BM l (.AL h p) m st=some (i,d))(b:BM n (.AL g o) j d=some (k,e)) :
 ∃a,BM n (.AL g o) j st=some (k,a)/\BM l (.AL h p) m a=some (i,e):=by
 unfold BM at c b ⊢;simp only[Ad]at c b ⊢;split at c
 ·cases c
 rename_i v;split at b
 ·cases b
 rename_i q;unfold Fs at c b;split at c
 ·rename_i w r;cases c;split at b
  ·rename_i x u;cases b;obtain⟨a,s,t⟩:=lF f r u;exact⟨a,by rw[AJ q,s];rfl,by rw[AJ v,t];rfl⟩
  ·cases b
 ·cases c
theorem YB{o:Dr}{ts:TS}{i:Nat}(h:XY o ts=some i):∃n args a v,o=⟨none,none,.store n,args⟩/\WL ts args=[.AL i a,v]:=by
 obtain⟨d,q,k,args⟩:=o;unfold XY at h;simp only at h;split at h
 ·cases h
 ·split at h
  ·cases h
  ·split at h
   ·rename_i n;split at h
    ·rename_i c a v b;cases h;exact⟨n,args,a,v,rfl,b⟩
    ·cases h
   ·cases h
section
variable {E:Env}{call:Nat->List AV->St->M (AV×St)}{s:Nat}
theorem NZ{i n:Nat}{args:List Ki}{a v:AV}{l:List IM}{p:Na}{ts:TS}{st:St}(h:WL ts args=[a,v]) :
 Db E call s ((i,⟨none,none,.store n,args⟩,[])::l) p ts st=(M.FM (BM n a v st)).bind fun r=>bif Fv s i p r.2 then Db E call s l p ts r.2 else .fail:=by
 have e:MK E call s ⟨none,none,.store n,args⟩ ts st=(M.FM (BM n a v st)).bind fun r=>.ret (ts,r.2):=by unfold MK;simp only[wanted,Ba,h];rfl
 rw[Db,e];cases BM n a v st<;>rfl
theorem Xt{x y:IM}{Q:TS×St->Prop}:∀(l:List IM) (p:Na) (ts:TS) (st:St),(VN E call s x y l p ts st).all Q->Wn (some (x,y)) (l++[x,y]) fun R=>(Db E call s R p ts st).all Q
 |[],p,ts,st,h=>by
  unfold VN at h;split at h
  ·rename_i i W;split at h
   ·rename_i j Y;rw[Ad]at h;split at h
    ·rename_i O;simp only[Aq,Fp,beq_eq,Ji]at O;obtain⟨q,⟨F,w⟩,a⟩:=O;refine⟨h,fun T D=>?_⟩;obtain⟨A,B,n,t,H,rfl⟩:=D;cases t;have e:n=[]:=by
      have:=Ot List.length H;cases n with
      |nil=>rfl
      |cons _ _=>simp at this
     subst e;obtain⟨k,x2,S⟩:=x;obtain⟨m,y2,U⟩:=y;obtain⟨N,L,o1,v1,rfl,K⟩:=YB W;obtain⟨n2,Z,o2,v2,rfl,u⟩:=YB Y;have F:S=[]:=by simpa using F
     have w:U=[]:=by simpa using w
     subst F w;rw[NZ K,M.all_bind]at h;obtain⟨⟨r1,g⟩,V,d⟩:=M.Sy h;have d:(bif Fv s k p g then Db E call s [(m,⟨none,none,.store n2,Z⟩,[])] p ts g else .fail).all Q:=d;rw[Ad]at d;split at d
     ·rw[NZ u,M.all_bind]at d;obtain⟨⟨r2,c⟩,P,f⟩:=M.Sy d;have f:(bif Fv s m p c then Db E call s [] p ts c else .fail).all Q:=f;rw[Ad]at f;split at f
      ·obtain⟨b,J,q2⟩:=lg q V P;rw[NZ u,J]at a;show (Db E call s ([]++[_,_]) p ts st).all Q;rw[JJ,NZ u,J];have a:(bif Fv s m p b then Db E call s [(k,⟨none,none,.store N,L⟩,[])] p ts b else .fail).aY=true:=a;show M.all Q (bif Fv s m p b then Db E call s [(k,⟨none,none,.store N,L⟩,[])] p ts b else .fail);rw[Ad]at a⊢;split at a
       ·rename_i v;rw[AX v];rw[NZ K,q2]at a⊢;have a:(bif Fv s k p c then Db E call s [] p ts c else .fail).aY=true:=a;show M.all Q (bif Fv s k p c then Db E call s [] p ts c else .fail);rw[Ad]at a⊢;split at a
        ·rename_i z;rw[AX z];exact f
        ·cases a
       ·cases a
      ·exact f.elim
     ·exact d.elim
    ·exact h.elim
   ·exact h.elim
  ·exact h.elim
 |(i,o,I)::l,p,ts,st,h=>by
  rw[VN,M.all_bind]at h;refine⟨?_,fun T D=>?_⟩
  ·show (Db E call s ((i,o,I)::(l++[x,y])) p ts st).all Q;rw[Db,M.all_bind];refine M.Sa h fun r a=>?_;cases hst:Fv s i p r.2 with
   |true=>rw[hst]at a;exact (Xt l _ _ _ a).1
   |false=>rw[hst]at a;exact a.elim
  ·obtain⟨A,B,n,t,H,rfl⟩:=D;cases t;have e:n=(i,o,I)::l:=(List.append_cancel_right H).symm;subst e;show (Db E call s ((i,o,I)::(l++[y,x])) p ts st).all Q;rw[Db,M.all_bind];refine M.Sa h fun r a=>?_;cases hst:Fv s i p r.2 with
   |true=>rw[hst]at a;exact (Xt l _ _ _ a).2 _ ⟨x,y,l,rfl,rfl,rfl⟩
   |false=>rw[hst]at a;exact a.elim
end
section
variable {G:XG P}{base:Nat}{w0:Start}{I:HY}{μ:Mu}{st:St}{w:World}{N:Nat}{ts:TS}{a:Act}
theorem jQ(k:P.follows .mixedOrders=true){call:Nat->List AV->St->M (AV×St)}(d:MU P G.GT call){b:Array Oper}{n:Nat}{L:List IM}{T:Option (IM×IM)}(v:Zd T P G.X N G.GT b n L)(g:L.length=b.size)(H:CQ base w0 I μ st w)(u:st.lo<=st.c)(K:Nh N I μ ts a)(Y:Ht G.GT I){Q:TS×St->Prop}(h:Wn T L fun R=>(Db G.E call st.c R [] ts { st with c:=st.c+n }).all Q){y:Exit->Act->World->Prop}(B:∀m l,At base w0 N I μ st (fun _=>False) Q a m l->y .normal m l)(id:Nat):(Code.region id b true).wp P y a w:=by
 refine wp_region_any k ?_;have H':CQ base w0 I μ { st with c:=st.c+n } w.drew:=(H.more (KF _ _)).drew;refine AA4 (G:=G) (N:=N) d v (s:=st.c) b.size L [] [] ts ts { st with c:=st.c+n } a w.drew I μ Q _ (by simp[g]) (by simp) (by simp) (fun j z=>?_) ?_ H' u (Ao _) K Y rfl trivial (fun e he id a0=>⟨H.jS _ (KF _ _),?_⟩) h fun m l U=>B m l ?_
 ·simp only[List.map_nil,JJ];refine⟨fun _=>v.all j z,fun _=>?_⟩;simp[zF,z]
 ·intro i o O S;exfalso;have W:=(Io.1 O).1;simp[vK,W]at S
 ·cases hf:AA st.h (st.c+id) with
  |none=>rfl
  |some x=>have:=H.Bi _ _ hf;omega
 ·obtain⟨q,t,J,ν,D,A,V,f,F⟩:=U;refine⟨q,t,J,ν,D,A,V,⟨f.PM,f.le,fun p r _=>f.same p (Bt r (KF _ _)) (by show ¬st.c<=p;omega),DV (KF _ _) f.c,f.lo,
   fun p r _ Z=>f.kept p (Bt r (KF _ _)) (by show ¬st.c<=p;omega) Z⟩,F⟩
theorem yT(f:P.follows .mixedOrders=true){call:Nat->List AV->St->M (AV×St)}(d:MU P G.GT call){b:Array Oper}{j:Nat}{L:List IM}(i:VF P G.X N G.GT b j L=true)(H:CQ base w0 I μ st w)(g:st.lo<=st.c)(r:Nh N I μ ts a)(p:Ht G.GT I){Q:TS×St->Prop}(h:(Db G.E call st.c L [] ts { st with c:=st.c+j }).all Q){l:Exit->Act->World->Prop}(o:∀m k,At base w0 N I μ st (fun _=>False) Q a m k->l .normal m k)(id:Nat):(Code.region id b true).wp P l a w:=by
 have e:L.length=b.size:=by simp only[VF,Aq]at i;exact Cb i.1.2
 exact jQ f d (oV i) e H g r p ⟨h,fun s n=>by obtain⟨_,_,_,q,_⟩:=n;cases q⟩ o id
theorem zn(f:P.follows .mixedOrders=true){call:Nat->List AV->St->M (AV×St)}(d:MU P G.GT call){b:Array Oper}{j:Nat}{L:List IM}{x y:IM}(i:VD P G.X N G.GT b j L x y=true)(H:CQ base w0 I μ st w)(g:st.lo<=st.c)(p:Nh N I μ ts a)(o:Ht G.GT I){Q:TS×St->Prop}(h:(VN G.E call st.c x y L [] ts { st with c:=st.c+j }).all Q){l:Exit->Act->World->Prop}(n:∀m k,At base w0 N I μ st (fun _=>False) Q a m k->l .normal m k)(id:Nat):(Code.region id b true).wp P l a w:=by
 have e:(L++[x,y]).length=b.size:=by simp only[VD,Aq]at i;exact Cb i.1.1.2
 exact jQ f d (oP i) e H g p o (Xt L _ _ _ h) n id
end
end Go.Am
namespace Go.Am
open Go Go.RowKit
variable {P:Program}
def IB(P:Program)(X:Nat->Option Ext)(N:Nat)(GT:Nat->Option AV):BD->Code->Bool
 |.skip,c=>(match c with|.skip=>true|_=>false)
 |.region na l,c=>(match c with|.region _ ops false=>WR P X N GT ops na l|_=>false)
 |.draw na L,c=>(match c with|.region _ ops true=>VF P X N GT ops na L|_=>false)
 |.lN na L x y,c=>(match c with|.region _ ops true=>VD P X N GT ops na L x y|_=>false)
 |.seq a b,c=>(match c with|.seq x y=>IB P X N GT a x&&IB P X N GT b y|_=>false)
 |.cond o a b,c=>(match c with|.cond v x y=>dn N GT v o&&(IB P X N GT a x&&IB P X N GT b y)|_=>false)
 |.block id a,c=>(match c with|.block i x=>Nat.beq i id&&IB P X N GT a x|_=>false)
 |.loop a,c=>(match c with|.loop x=>IB P X N GT a x|_=>false)
 |.exit id,c=>(match c with|.exit i=>Nat.beq i id|_=>false)
 |.ret,c=>(match c with|.ret=>true|_=>false)
 |.bad,_=>true
def lU:KN->Exit
 |.normal=>.normal
 |.exit i=>.exit i
 |.ret=>.ret
section
variable {G:XG P}{base:Nat}{w0:Start}{N:Nat}
theorem At.imp{S:Nat->Prop}{I:HY}{μ:Mu}{f:St}{Q R:TS×St->Prop}{a e:Act}{d:World}(h:At base w0 N I μ f S Q a e d)(g:∀r,Q r->R r):At base w0 N I μ f S R a e d:=by obtain⟨c,b,J,ν,j,i⟩:=h;exact⟨c,b,J,ν,g _ j,i⟩
theorem AA7(F:P.follows .mixedOrders=true){call:Nat->List AV->St->M (AV×St)}(B:MU P G.GT call):∀(U:BD) (c:Code) (f:St) (k:TS) (a:Act) (w:World) (I:HY) (μ:Mu) (Q:KN×TS×St->Prop) (z:Exit->Act->World->Prop),
 IB P G.X N G.GT U c=true->CQ base w0 I μ f w->f.lo<=f.c->Nh N I μ k a->Ht G.GT I->(Bc G.E call U k f).all Q ->
 (∀A q p,At base w0 N I μ f (fun _=>False) (fun r=>Q (A,r)) a q p->z (lU A) q p)->c.wp P z a w:=by
 intro U;induction U with
 |skip=>intro c f k a w I μ Q z b H d m s h g;cases c<;>simp[IB]at b;exact wp_skip (g .normal a w ⟨k,f,I,μ,h,H,m,Nx.refl _ _ _ _,rfl⟩)
 |region na l=>
  intro c f k a w I μ Q z b H d m s h g;simp only[IB]at b;split at b
  ·rename_i id T;rw[Bc,M.all_bind]at h;exact rZ B b H d m s h (fun q p j=>g .normal q p j) id
  ·cases b
 |draw na L=>
  intro c f k a w I μ Q z b H d m s h g;simp only[IB]at b;split at b
  ·rename_i id T;rw[Bc,M.all_bind]at h;exact yT F B b H d m s h (fun q p j=>g .normal q p j) id
  ·cases b
 |lN na L x y=>
  intro c f k a w I μ Q z b H d m s h g;simp only[IB]at b;split at b
  ·rename_i id T;rw[Bc,M.all_bind]at h;exact zn F B b H d m s h (fun q p j=>g .normal q p j) id
  ·cases b
 |seq x y S O=>
  intro c f k a w I μ Q z b H d m s h g;simp only[IB]at b;split at b
  ·rw[Aq]at b;rw[Bc,M.all_bind]at h;refine wp_seq (S _ f k a w I μ _ _ b.1 H d m s h fun A q p j=>?_);cases A with
   |normal=>obtain⟨K,R,J,ν,Z,V,h3,D,h5⟩:=j;exact O _ R K q p J ν Q z b.2 V (by rw[D.lo];exact DV d D.c) h3 (s.mono D.PM) Z fun A a2 w2 j=>g A a2 w2 (At.step D h5 j)
   |exit i=>exact g (.exit i) q p j
   |ret=>exact g .ret q p j
  ·cases b
 |cond o x y S O=>
  intro c f k a w I μ Q z b H d m s h g;simp only[IB]at b;split at b
  ·rename_i v cx cy;simp only[Aq]at b;have hv:=ay m s b.1;rw[Bc]at h;generalize ev k o=u at h hv;split at h
   ·rename_i t;have:a.eval v=.bool t:=by generalize a.eval v=rv at hv;cases hv;rfl
    refine wp_cond this ?_;rw[Ad]at h;split
    ·rename_i Y;rw[AX Y]at h;exact S _ f k a w I μ Q z b.2.1 H d m s h g
    ·rename_i Y;rw[AJ Y]at h;exact O _ f k a w I μ Q z b.2.2 H d m s h g
   ·exact h.elim
  ·cases b
 |block id x ih=>
  intro c f k a w I μ Q z b H d m s h g;simp only[IB]at b;split at b
  ·rw[Aq]at b;have:=Cb b.1;subst this;rw[Bc,M.all_bind]at h;refine wp_block (ih _ f k a w I μ _ _ b.2 H d m s h fun A q p j=>?_);cases A with
   |normal=>exact g .normal q p j
   |exit i=>
    rename_i a0 _;simp only[lU,Exit.inBlock];split
    ·rename_i e;subst e;refine g .normal q p (j.imp fun r j=>?_);simp only[M.all,beq_eq,Ff,Ba]at j;exact j
    ·rename_i e;refine g (.exit i) q p (j.imp fun r j=>?_);simp only[M.all,beq_eq,e,Lb,Bj]at j;exact j
   |ret=>exact g .ret q p j
  ·cases b
 |loop x ih=>
  intro c f k a w I μ Q z b H d m s h g;simp only[IB]at b;split at b
  ·rename_i cx;rw[Bc]at h;have key:∀n f k a w I μ,CQ base w0 I μ f w->f.lo<=f.c->Nh N I μ k a->Ht G.GT I->(Dm (Bc G.E call x) n k f).all Q ->
    (∀A q p,At base w0 N I μ f (fun _=>False) (fun r=>Q (A,r)) a q p->z (lU A) q p)->Code.rounds P cx z n a w:=by
    intro n;induction n with
    |zero=>intro f k a w I μ H d m s h g;exact h.elim
    |succ n W=>
     intro f k a w I μ H d m s h g;rw[rounds_succ];rw[Dm,M.all_bind]at h;refine ih _ f k a w I μ _ _ b H d m s h fun A q p j=>?_;cases A with
     |normal=>obtain⟨K,R,J,ν,Z,V,h3,D,h5⟩:=j;exact W R K q p J ν V (by rw[D.lo];exact DV d D.c) h3 (s.mono D.PM) Z fun A a2 w2 j=>g A a2 w2 (At.step D h5 j)
     |exit i=>exact g (.exit i) q p j
     |ret=>exact g .ret q p j
   exact wp_loop_rounds _ (key _ f k a w I μ H d m s h g)
  ·cases b
 |exit id=>
  intro c f k a w I μ Q z b H d m s h g;simp only[IB]at b;split at b
  ·have:=Cb b;subst this;exact wp_exit (g (.exit _) a w ⟨k,f,I,μ,h,H,m,Nx.refl _ _ _ _,rfl⟩)
  ·cases b
 |ret=>
  intro c f k a w I μ Q z b H d m s h g;simp only[IB]at b;split at b
  ·exact wp_ret (g .ret a w ⟨k,f,I,μ,h,H,m,Nx.refl _ _ _ _,rfl⟩)
  ·cases b
 |bad=>intro c f k a w I μ Q z b H d m s h g;exact h.elim
end
end Go.Am
namespace Go.Am
open Go Go.RowKit
variable {P:Program}
def Mr(P:Program)(N:Nat):List ResultVar->List ku->Bool
 |[],[]=>true
 |.tmp t::l,.tmp u::m=>Nat.beq t u&&Nat.blt t N&&Mr P N l m
 |.cell a t::l,.cell b agg::m=>Nat.beq a b&&Nat.blt a N&&aC P t agg&&Mr P N l m
 |_,_=>false
def YP(tmps:Array Value):ResultVar->Sem Value
 |.tmp t=>pure (tmps.getD t undef)
 |.cell a t=>do loadVar t (← asAddr (tmps.getD a undef))
def Qk(tmps:Array Value):List ResultVar->Sem (List Value)
 |[]=>pure []
 |r::l=>do
  let v ← YP tmps r
  let vs ← Qk tmps l
  pure (v::vs)
section
variable {base:Nat}{w0:Start}{I:HY}{μ:Mu}{st:St}{w:World}{N:Nat}{ts:TS}{a:Act}
theorem Qj(H:CQ base w0 I μ st w)(o:Nh N I μ ts a):∀{l:List ResultVar} {m:List ku} {f:List AV},Mr P N l m=true->Af st.h ts m=some f->∃e,(Qk a.tmps l).run P w=.ok e w/\BR I μ f e
 |[],[],f,d,h=>by cases h;exact⟨[],rfl,.nil⟩
 |[],_::_,f,d,h=>by simp[Mr]at d
 |.tmp t::l,[],f,d,h=>by simp[Mr]at d
 |.cell t u::l,[],f,d,h=>by simp[Mr]at d
 |.tmp t::l,.cell u g::m,f,d,h=>by simp[Mr]at d
 |.cell t g::l,.tmp u::m,f,d,h=>by simp[Mr]at d
 |.tmp t::l,.tmp u::m,f,d,h=>by
  simp only[Mr,Aq]at d;have:=Cb d.1.1;subst this;have i:=d.1.2;rw[blt_eq]at i;have i:t<N:=by simpa using i
  simp only[Af,fq]at h;split at h
  ·rename_i x j;cases h;obtain⟨e,s,r⟩:=Qj H o d.2 j;exact⟨a.eval (.tmp t)::e,by simp only[Qk,YP,CJ,Cs,s,Dj];rfl,.cons _ _ _ _ (o.get t i) r⟩
  ·cases h
 |.cell b t::l,.cell c agg::m,f,d,h=>by
  simp only[Mr,Aq]at d;have:=Cb d.1.1.1;subst this;have i:=d.1.1.2;rw[blt_eq]at i;have i:b<N:=by simpa using i
  simp only[Af,fq]at h;split at h
  ·rename_i v j;split at h
   ·rename_i x y;cases h;obtain⟨e,s,r⟩:=Qj H o d.2 y;have k:=o.get b i;obtain⟨z,p,B⟩:=qD (P:=P) H d.1.2 k j;refine⟨z::e,?_,.cons _ _ _ _ B r⟩;have D:(YP a.tmps (.cell b t)).run P w=.ok z w:=by
     have F:a.eval (.tmp b)=a.tmps.getD b undef:=rfl;rw[F]at p k;simp only[YP];generalize a.tmps.getD b undef=rp at p k;generalize ts.get b=up at k j;have:∃A,rp=.pointer (some A):=by
      cases agg with
      |some n=>simp only[LB,Gf]at j;obtain⟨J,q,_⟩:=j;cases k<;>simp[Ak]at q<;>exact⟨_,rfl⟩
      |none=>simp only[LB]at j;cases k<;>simp[AQ]at j<;>exact⟨_,rfl⟩
     obtain⟨A,rfl⟩:=this;simp only[Instr.loadAt,Instr.sureAddr,CJ,Cs,Dj]at p;simp only[asAddr,CJ,Cs,Dj,p]
    simp only[Qk,CJ,D,s,Dj,Cs]
   ·cases h
  ·cases h
theorem aS(f:ResultVar->Sem Value)(tmps:Array Value)(a:∀r,f r=YP tmps r):∀(l:List ResultVar),l.mapM f=Qk tmps l
 |[]=>rfl
 |r::l=>by rw[List.mapM_cons,aS f tmps a l,a];rfl
theorem Wt(fn:Func)(tmps:Array Value)(w:World):(Go.results fn tmps).run P w=((Qk tmps fn.results.toList).run P w).andThen fun a w=>.ok (match a with|[v]=>v|l=>.tuple l.toArray) w:=by
 unfold Go.results;rw[Array.mapM_eq_mapM_toList,aS _ tmps (fun r=>by cases r<;>rfl)];simp only[bind_pure_comp,Sem.run_map];cases (Qk tmps fn.results.toList).run P w with
 |halt x b=>rfl
 |ok a b=>
  simp only[Dj];congr 1;match a with
  |[]=>rfl
  |[v]=>rfl
  |_::_::_=>simp
theorem xY(H:CQ base w0 I μ st w)(k:Nh N I μ ts a){fn:Func}{i:List ku}(j:Mr P N fn.results.toList i=true){v:AV}(h:results i st.h ts=some v):∃d,(Go.results fn a.tmps).run P w=.ok d w/\BO I μ v d:=by
 unfold results at h;split at h
 ·rename_i o f;cases h;obtain⟨b,g,c⟩:=Qj (P:=P) H k j f;obtain⟨d,rfl,n⟩:=c.one;exact⟨d,by rw[Wt,g];rfl,n⟩
 ·rename_i l e f;cases h;obtain⟨b,g,c⟩:=Qj (P:=P) H k j f;refine⟨.tuple b.toArray,?_,.tuple _ _ c⟩;rw[Wt,g];have m:=c.length;match b,l,m with
  |[v],[u],_=>exact absurd rfl (e u)
  |[],_,_=>rfl
  |_::_::_,_,_=>rfl
 ·cases h
theorem YZ:∀(l:List AV) (i:Nat) (t:TS) (j:Nat),i+l.length<2^15->(TS.FK l i t).get j=if i<=j/\j<i+l.length then l.getD (j-i) .undef else t.get j
 |[],i,t,j,_=>by simp[TS.FK];omega
 |v::l,i,t,j,h=>by
  simp only[FV]at h;rw[TS.FK,YZ l (i+1) _ j (by omega),TS.Xg _ _ _ _ (by omega)];by_cases h1:i=j
  ·subst h1;rw[AJ (by omega),AX rfl,AX (by simp)];simp
  ·by_cases h2:i+1<=j/\j<i+1+l.length
   ·rw[AX h2,AX (by simp;omega)];have:j-i=(j-(i+1))+1:=by omega
    rw[this,List.getD_cons_succ]
   ·rw[AJ h2,AJ h1,AJ (by simp;omega)]
theorem wC{args:List AV}{a:List Value}(c:BR I μ args a)(l:N<2^14)(j:args.length<2^14) :
 Nh N I μ (TS.FK args 0 .nil) { tmps:=a.toArray++Array.replicate (N-a.toArray.size) undef,defers:=[] }:=by
 have e:=c.length;refine⟨by simp;omega,by omega,fun t k=>?_⟩;rw[YZ _ _ _ _ (by omega)];simp only[Act.eval,TF];by_cases h:t<args.length
 ·rw[AX (by omega)];have d:args[t]? =some args[t]:=Bu h;obtain⟨i,g,f⟩:=c.get t _ d;have b:(a.toArray++Array.replicate (N-a.toArray.size) undef)[t]? =some i:=by rw[Array.getElem?_append_left (by simp;omega)];simpa using g
  rw[b];simp only[OJ,List.getD_eq_getElem?_getD,d,KG];exact f
 ·rw[AJ (by omega)];have b:(a.toArray++Array.replicate (N-a.toArray.size) undef)[t]?.getD undef=undef:=by
   rw[Array.getElem?_append_right (by simp;omega)];cases hx:(Array.replicate (N-a.toArray.size) undef)[t-a.toArray.size]? with
   |none=>rfl
   |some x=>have:=Array.mem_of_getElem? hx;simp at this;simp[this]
  rw[b];exact .tuple [] [] .nil
end
end Go.Am
namespace Go.Am
open Go Go.RowKit
variable {P:Program}
def Qd(ν:Mu)(c:Nat)(h:Aa)(r:Nat):Prop:=∃o x pl,c<=o/\AA h o=some x/\ν o=some pl/\pl.r=r
open Classical in
 noncomputable def UM(J:HY)(ν:Mu)(c:Nat)(h:Aa)(w:World):HY where
 cell r off:=if Qd ν c h r then w.cell? ⟨r,off,none⟩ else J.cell r off
 map r:=if Qd ν c h r then w.heap[r]? else J.map r
section
variable {base:Nat}{w0:Start}{J K:HY}{ν μ:Mu}{st:St}{w:World}{c:Nat}
theorem dP(H:CQ base w0 J ν st w):J.le (UM J ν c st.h w):=by
 refine⟨fun r a v h=>?_,fun r x h=>?_⟩
 ·simp only[UM];split
  ·exact H.PM r a v h
  ·exact h
 ·simp only[UM];split
  ·exact H.Iy r x h
  ·exact h
theorem gP{l m:List AV}:AV.Dq c (l++m)=(AV.Dq c l&&AV.Dq c m):=by
 induction l with
 |nil=>simp[AV.Dq]
 |cons x l a=>simp[AV.Dq,a,Bool.and_assoc]
theorem mf{a:List AV}(h:AV.Dq c a=true):AV.Dq c (a.flatMap AV.cells)=true:=by
 induction a with
 |nil=>rfl
 |cons x a b=>
  simp only[AV.Dq,Aq]at h;rw[Cn,gP,Aq];refine⟨?_,b h.2⟩;cases x<;>first
   |(simp only[AV.cells,AV.Dq,Bool.and_true];exact h.1)
   |(simp only[AV.cells];have:=h.1;simp only[AV.CY]at this;exact this)
 mutual
theorem bn(hμ:∀o pl,o<c->ν o=some pl->μ o=some pl) (hI:J.le K):∀{v:AV} {rv:Value},BO J ν v rv->AV.CY c v=true->BO K μ v rv
 |_,_,.bool b,_=>.bool b
 |_,_,.int k n,_=>.int k n
 |_,_,.str l,_=>.str l
 |_,_,.DY,_=>.DY
 |_,_,.AL o off pl h,ho=>.AL o off pl (hμ _ _ (by simp only[AV.CY,blt_eq,Aw]at ho;exact ho) h)
 |_,_,.CB cs r off rvs h h1 t,ho=>.CB cs r off rvs (fun i hi=>hI.1 _ _ _ (h i hi)) h1 (JG hμ hI t (by simp only[AV.CY]at ho;exact ho))
 |_,_,.AO,_=>.AO
 |_,_,.list tight sz xs r off cap rvs h h1 hs t hc ht,ho=>.list tight sz xs r off cap rvs (fun i hi=>hI.1 _ _ _ (h i hi)) h1 hs (JG hμ hI t (mf (by simp only[AV.CY]at ho;exact ho))) hc ht
 |_,_,.AU o off len cap pl a rcap h hz ha hl hc,ho=>.AU o off len cap pl a rcap (hμ _ _ (by simp only[AV.CY,blt_eq,Aw]at ho;exact ho) h) hz ha hl hc
 |_,_,.IZ,_=>.IZ
 |_,_,.Cq o pl h,ho=>.Cq o pl (hμ _ _ (by simp only[AV.CY,blt_eq,Aw]at ho;exact ho) h)
 |_,_,.CR ks vs r es clock h hk hv,ho=>by simp only[AV.CY,Aq]at ho;exact .CR ks vs r es clock (hI.2 _ _ h) (JG hμ hI hk ho.1) (JG hμ hI hv ho.2)
 |_,_,.fn f a b ra rb ha hb,ho=>by simp only[AV.CY,Aq]at ho;exact .fn f a b ra rb (JG hμ hI ha ho.1) (JG hμ hI hb ho.2)
 |_,_,.Nc,_=>.Nc
 |_,_,.iface t v rv h,ho=>.iface t v rv (bn hμ hI h (by simp only[AV.CY]at ho;exact ho))
 |_,_,.Ij,_=>.Ij
 |_,_,.agg cs rvs h h1,ho=>.agg cs rvs (JG hμ hI h (by simp only[AV.CY]at ho;exact ho)) h1
 |_,_,.tuple cs rvs h,ho=>.tuple cs rvs (JG hμ hI h (by simp only[AV.CY]at ho;exact ho))
theorem JG(hμ:∀o pl,o<c->ν o=some pl->μ o=some pl) (hI:J.le K):∀{l:List AV} {rl:List Value},BR J ν l rl->AV.Dq c l=true->BR K μ l rl
 |_,_,.nil,_=>.nil
 |_,_,.cons v rv l rl h t,ho=>by simp only[AV.Dq,Aq]at ho;exact .cons v rv l rl (bn hμ hI h ho.1) (JG hμ hI t ho.2)
end
theorem JD{f:AV->Option AV}(g:∀v c e,f v=some c->BO J ν v e->BO K μ c e):∀{l d:List AV} {a:List Value},DD f l=some d->BR J ν l a->BR K μ d a
 |[],d,a,h,b=>by cases h;cases b;exact .nil
 |v::l,d,a,h,b=>by
  simp only[DD]at h;split at h
  ·rename_i c k;split at h
   ·rename_i m i;cases h;cases b with
    |cons _ e _ a b j=>exact .cons _ _ _ _ (g v c e k b) (JD g i j)
   ·cases h
  ·cases h
theorem UQ{f:AV->Option AV}:∀{l a:List AV},DD f l=some a->a.length=l.length
 |[],a,h=>by cases h;rfl
 |v::l,a,h=>by
  simp only[DD]at h;split at h
  ·split at h
   ·rename_i b;cases h;simp[UQ b]
   ·cases h
  ·cases h
theorem cells_one{v:AV}{a:Value}(h:BO K μ v a)(b:a.oneCell'=true):v.cells=[v]:=by cases h<;>first|rfl|(simp[Value.oneCell']at b)
theorem Wo{f:AV->Option AV}(t:∀v y B,f v=some y->BO J ν v B->BO K μ y B)(e:∀c x,f (.agg c)=some x->∃g,x=.agg g):∀{m b:List AV} {d:List Value},DD f m=some b->BR J ν (m.flatMap AV.cells) d->One d ->
 BR K μ (b.flatMap AV.cells) d/\b.map (fun x=>x.cells.length)=m.map (fun x=>x.cells.length)
 |[],b,d,h,n,_=>by cases h;cases n;exact⟨.nil,rfl⟩
 |x::m,b,d,h,n,A=>by
  simp only[DD]at h;split at h
  ·rename_i j u;split at h
   ·rename_i I p;cases h;rw[Cn]at n;obtain⟨k,F⟩:=n.split;obtain⟨N,D⟩:=Wo t e p F (A.drop _);have key:BR K μ j.cells (d.take x.cells.length)/\j.cells.length=x.cells.length:=by
     have a:=A.take x.cells.length;by_cases hx2:∃c,x=.agg c
     ·obtain⟨c,rfl⟩:=hx2;obtain⟨g,rfl⟩:=e c j u;have l:=t _ _ _ u (.agg c _ k a);generalize s:(Value.agg (d.take (AV.agg c).cells.length).toArray)=q at l;cases l with
      |agg _ w i _=>
       have:w=d.take (AV.agg c).cells.length:=by injection s with s;have:=Ot Array.toList s;simpa using this.symm
       subst this;exact⟨i,by have O:=i.length;have H:=k.length;show g.length=_;rw[O];exact H.symm⟩
     ·have P:x.cells=[x]:=by cases x<;>first|rfl|exact absurd ⟨_,rfl⟩ hx2
      rw[P]at k a ⊢;obtain⟨r,l,o⟩:=k.one;rw[l]at a⊢;have z:=t x j r u o;have L:=cells_one z (a r (by simp));rw[L];exact⟨.cons _ _ _ _ z .nil,rfl⟩
    refine⟨?_,by simp only[Dh,key.2,D]⟩;rw[Cn];have:=key.1.append N;rwa [Kq]at this
   ·cases h
  ·cases h
theorem pg{b:Nat}(g:0<b):∀(n:Nat) (a:List AV),a.length=n*b->(∀x∈a,x.cells=[x])->(rows b n a).flatMap AV.cells=a/\(rows b n a).length=n/\∀x∈rows b n a,x.cells.length=b
 |0,a,h,_=>by have:a=[]:=Gn (by simpa using h);subst this;exact⟨rfl,rfl,by simp[rows]⟩
 |n+1,a,h,i=>by
  have f:(a.drop b).length=n*b:=by rw[IV,h,Hq];omega
  obtain⟨j,l,k⟩:=pg g n (a.drop b) f fun x e=>i x (NC e);have d:(a.take b).length=b:=by rw[Gv,h,Hq];omega
  have c:(bif Nat.beq b 1 then a.headD .undef else .agg (a.take b)).cells=a.take b:=by
   rw[beq_eq,Ad];by_cases hs:b=1
   ·subst hs;simp only[Ff,FC];cases a with
    |nil=>simp at d
    |cons x a=>simp[i x (by simp)]
   ·simp only[hs,Lb,GA,Dn];rfl
  refine⟨?_,by simp[rows,l],fun x e=>?_⟩
  ·rw[rows,Cn,c,j,Kq]
  ·rw[rows,BK]at e;rcases e with e|e
   ·rw[e,c,d]
   ·exact k x e
end
end Go.Am
namespace Go.Am
open Go Go.RowKit
variable {P:Program}
section
variable {base:Nat}{w0:Start}{J:HY}{ν μ:Mu}{st:St}{w:World}{c:Nat}
theorem vz{c n:Nat}{h:Aa}{d:List AV}{x:AV}(a:Ce c h n (.agg d)=some x):∃b,x=.agg b:=by
 cases n with
 |zero=>simp[Ce]at a
 |succ n=>
  simp only[Ce,Ad]at a;split at a
  ·cases a;exact⟨_,rfl⟩
  ·split at a
   ·cases a;exact⟨_,rfl⟩
   ·cases a
theorem gV{o:Nat}{x:BJ}{a:Pl}(e:c<=o)(d:AA st.h o=some x)(b:ν o=some a)(i:Nat):(UM J ν c st.h w).cell a.r i=w.cell? ⟨a.r,i,none⟩:=by simp only[UM];rw[AX ⟨o,x,a,e,d,b,rfl⟩]
theorem AAQ{o b:Nat}{x:BJ}{a:Pl}(i:c<=o)(g:AA st.h o=some x)(e:ν o=some a){d:Array MapEntry}(f:w.heap[a.r]? =some (.map d b)):(UM J ν c st.h w).map a.r=some (.map d b):=by simp only[UM];rw[AX ⟨o,x,a,i,g,e,rfl⟩,f]
theorem bM(H:CQ base w0 J ν st w)(hμ:∀o L,o<c->ν o=some L->μ o=some L):∀(n:Nat) (v v':AV) (rv:Value),Ce c st.h n v=some v'->BO J ν v rv->BO (UM J ν c st.h w) μ v' rv:=by
 intro n;induction n with
 |zero=>intro v v' rv h;simp[Ce]at h
 |succ n s=>
  intro v v' rv h hv;have hI:=dP (c:=c) H;simp only[Ce,Ad]at h;split at h
  ·rename_i ho;cases h;exact bn hμ hI hv ho
  ·rename_i D;cases hv with
   |AL o e L F=>
    simp only[AV.CY,blt_eq,Aw]at D;simp only at h;split at h
    ·rename_i ty m cs ext R;rw[ble_eq]at h;split at h
     ·rename_i O;simp only[Aw]at O;split at h
      ·rename_i d l;cases h;obtain⟨a1,cc,fz,g,S,W,hn,he,hw,a5,a9,N,z,Y⟩:=H.cells R F;rw[F]at S;cases S;refine .CB d L.r (L.b+e) (g.drop e) (fun i B=>?_) (z.drop _) (JD s l (N.drop e));simp only[IV]at B;rw[gV (by omega) R F,GV hw,Fg,Y (e+i) (by omega)];simp
      ·cases h
     ·cases h
    ·cases h
   |AU o e len cap L a j F hz ha hl hc=>
    simp only[AV.CY,blt_eq,Aw]at D;simp only at h;split at h
    ·rename_i ty m cs ext R;rw[blt_eq,ble_eq]at h;split at h
     ·rename_i O;simp only[Aq,Aw]at O;split at h
      ·rename_i d l;cases h;obtain⟨a1,cc,fz,g,S,W,hn,he,hw,a5,a9,N,z,Y⟩:=H.cells R F;rw[F]at S;cases S;have hr:=JD s l ((N.drop e).take (len*m));have K:One ((g.drop e).take (len*m)):=(z.drop e).take _;have b4:=N.length;have a0:d.length=len*m:=by rw[hr.length];simp only[Gv,IV];omega
       have U:∀x∈d,x.cells=[x]:=fun x hx=>by obtain⟨i,B⟩:=List.getElem?_of_mem hx;obtain⟨rx,p,P⟩:=hr.get i x B;exact cells_one P (K rx (List.mem_of_getElem? p))
       obtain⟨r1,r2,r3⟩:=pg O.1 len d a0 U;have a8:∀Z:Bool,(Z=true->j=len)->BO (UM J ν c st.h w) μ (.list Z m (rows m len d)) (.slice (some a) len j):=by
        intro Z Q;have A:Z=true->j=(rows m len d).length:=by rw[r2];exact Q
        by_cases hpos:0<j
        ·rw[ha.2 hpos];have:=BO.list (I:=UM J ν c st.h w) (μ:=μ) Z m (rows m len d) L.r (L.b+e) j ((g.drop e).take (len*m)) (fun i B=>by
          simp only[Gv,IV]at B
          rw[gV (by omega) R F,GV hw,Fg,Y (e+i) (by omega)]
          simp) K r3 (by rw[r1];exact hr) (by rw[r2];exact hl) A
         rw[r2]at this;exact this
        ·have h0:len=0:=by omega
         subst h0;obtain⟨ab,ao,b3⟩:=a;have a3:=ha.1;simp only at a3;subst a3;exact BO.list (I:=UM J ν c st.h w) (μ:=μ) Z m (rows m 0 d) ab ao j [] (fun i B=>by simp at B) (fun v hv=>by cases hv) r3 (by simp only[rows,List.flatMap_nil];exact .nil) (by rw[r2];exact hl) A
       refine a8 _ fun q=>?_;cases cap with
       |none=>cases q
       |some k=>have q:=Cb q;obtain⟨s1,s2⟩:=hc;omega
      ·cases h
     ·cases h
    ·cases h
   |Cq o L F=>
    simp only[AV.CY,blt_eq,Aw]at D;simp only at h;split at h
    ·rename_i ks vs bs clock R;obtain⟨a1,es,S,_,_,_,hw,b0,a6,_,_,_⟩:=H.maps R F;rw[F]at S;cases S;split at h
     ·rename_i V hk;split at h
      ·rename_i T b2;cases h;exact .CR V T L.r es clock (AAQ (by omega) R F hw) (JD s hk b0) (JD s b2 a6)
      ·cases h
     ·cases h
    ·cases h
   |CB cs r e g hc p t=>
    simp only at h;split at h
    ·rename_i d l;cases h;exact .CB d r e g (fun i B=>hI.1 _ _ _ (hc i B)) p (JD s l t)
    ·cases h
   |list tight m xs r e cap g hc p hs t Q ht=>
    simp only at h;split at h
    ·rename_i a2 a4;cases h;obtain⟨g1,g2⟩:=Wo s (fun cs x hx=>vz hx) a4 t p;have hl:=UQ a4;have:=BO.list (I:=UM J ν c st.h w) (μ:=μ) tight m a2 r e cap g (fun i B=>hI.1 _ _ _ (hc i B)) p (fun x hx=>by
      have hm:x.cells.length∈a2.map (fun x=>x.cells.length):=BP.2 ⟨x,hx,rfl⟩
      rw[g2]at hm
      obtain⟨y,hy,a7⟩:=BP.1 hm
      rw[←a7];exact hs y hy) g1 (by omega) (fun q=>by rw[hl];exact ht q)
     rw[hl]at this;exact this
    ·cases h
   |CR ks vs r es clock hm hk b1=>
    simp only at h;split at h
    ·rename_i V p;split at h
     ·rename_i T P;cases h;exact .CR V T r es clock (hI.2 _ _ hm) (JD s p hk) (JD s P b1)
     ·cases h
    ·cases h
   |fn f a b ra rb ha hb=>
    simp only at h;split at h
    ·rename_i a' p;split at h
     ·rename_i b' P;cases h;exact .fn f a' b' ra rb (JD s p ha) (JD s P hb)
     ·cases h
    ·cases h
   |iface t u ru hu=>
    simp only at h;split at h
    ·rename_i u' p;cases h;exact .iface t u' ru (s u u' ru p hu)
    ·cases h
   |agg cs g l p=>
    simp only at h;split at h
    ·rename_i d P;cases h;exact .agg d g (JD s P l) p
    ·cases h
   |tuple cs g l=>
    simp only at h;split at h
    ·rename_i d P;cases h;exact .tuple d g (JD s P l)
    ·cases h
   |_=>simp at h
end
end Go.Am
namespace Go.Am
open Go Go.RowKit
variable {P:Program}
structure zV (P:Program)(X:Nat->Option Ext)(GT:Nat->Option AV)(f:Nat)(fn:DF):Prop where
 ok:∃rf c,P.funcs[f]? =some rf/\rf.body=some c/\(rf.name == "runtime.NumGoroutine")=false/\IB P X rf.ntmps GT fn.body c=true/\Mr P rf.ntmps rf.results.toList fn.results=true/\rf.ntmps<2^14
def Zc(P:Program)(GT:Nat->Option AV)(f:Nat)(g:Aa->List AV->Option AV):Prop:=
 ∀(args:List AV) (v:AV) (st:St),g st.h args=some v->∀(base:Nat) (w0:Start) (I:HY) (μ:Mu) (w:World) (rargs:List Value),Ht GT I->CQ base w0 I μ st w->BR I μ args rargs ->
  (∀W,(callFunc f rargs.toArray).run P W=.ok (.enter f rargs.toArray) W)/\Calls P f rargs.toArray w fun e w'=>∃rv K,e=.returned rv/\BO K μ v rv/\CQ base w0 K μ st w'/\I.le K
def TJ(P:Program)(GT:Nat->Option AV)(f:Nat)(g:St->List AV->Option (AV×St)):Prop:=
 ∀(args:List AV) (v:AV) (st st':St),g st args=some (v,st')->∀(base:Nat) (w0:Start) (I:HY) (μ:Mu) (w:World) (rargs:List Value),Ht GT I->CQ base w0 I μ st w->st.lo<=st.c->BR I μ args rargs ->
  (∀W,(callFunc f rargs.toArray).run P W=.ok (.enter f rargs.toArray) W)/\Calls P f rargs.toArray w fun e w'=>∃rv K,e=.returned rv/\BO K μ v rv/\CQ base w0 K μ st' w'/\I.le K/\st'.c=st.c/\st'.lo=st.lo/\∀p,p<st.c->μ p=none->AA st'.h p=AA st.h p
theorem Zc.m{P:Program}{GT:Nat->Option AV}{f:Nat}{g:Aa->List AV->Option AV}(h:Zc P GT f g):TJ P GT f (Me g):=by
 intro args v st i b base w0 I μ w a l H _ q;unfold Me at b;split at b
 ·rename_i t c;cases b;obtain⟨s,d⟩:=h args v st c base w0 I μ w a l H q;refine⟨s,Jq d fun e w' j=>?_⟩;obtain⟨n,K,o,k,p,r⟩:=j;exact⟨n,K,o,k,p,r,rfl,rfl,fun _ _ _=>rfl⟩
 ·cases b
structure Sound (G:XG P):Prop where
 fol:P.follows .mixedOrders=true
 code:∀f fn,G.E.code f=some fn->zV P G.X G.GT f fn
 WG:∀f g,G.E.WG f=some g->TJ P G.GT f g
section
variable {G:XG P}{base:Nat}{w0:Start}{I J K:HY}{μ ν:Mu}{st:St}{w w':World}
theorem OB{f:Nat}{a:Func}{c:Code}(b:P.funcs[f]? =some a)(d:a.body=some c)(e:(a.name == "runtime.NumGoroutine")=false)(args:Array Value)(W:World):(callFunc f args).run P W=.ok (.enter f args) W:=by
 have g:a.name ≠ "runtime.NumGoroutine":=by simpa using e
 simp[callFunc,b,g,d,Result.andThen]
theorem CQ.grown(H:CQ base w0 I μ st w)(c:Below w.heap.size w w'):CQ base w0 I μ st w':=by
 have a:∀r,r<w.heap.size->w'.heap[r]? =w.heap[r]?:=fun r e=>c.block r e;refine⟨H.below.trans (c.mono H.lC),DV H.lC c.size,fun r b v h=>?_,fun r g h=>?_,H.jS,fun o ob f h d=>?_,H.lo,H.sep,H.TL,H.MX,H.Bi,H.XP⟩
 ·have:=H.PM r b v h;rw[TC (w:=w) (a r (Qa _ _ this))];exact this
 ·have:=H.Iy r g h;rw[a r (NT this)];exact this
 ·have:=H.obj o ob f h d;exact this.world (a _ this.lt)
theorem RG(U:Sound G){call:Nat->List AV->St->M (AV×St)}(j:MU P G.GT call){f:Nat}{fn:DF}(L:zV P G.X G.GT f fn){args:List AV}{Q:AV×St->Prop}(h:(Gt G.E call fn args st).all Q)(H:CQ base w0 I μ st w)(s:st.lo<=st.c)(S:Ht G.GT I){b:List Value}(T:BR I μ args b):(∀W,(callFunc f b.toArray).run P W=.ok (.enter f b.toArray) W) /\
 Calls P f b.toArray w fun e w'=>∃g v a J ν,e=.returned g/\Q (v,a)/\CQ base w0 J ν a w'/\BO J ν v g/\Nx I μ st (fun _=>False) J ν a:=by
 obtain⟨D,c,m,k,o,r,q,n⟩:=L.ok;refine⟨fun W=>OB m k o _ W,?_⟩;unfold Gt at h;rw[ble_eq,Ad]at h;split at h
 ·rename_i t;simp only[Aw]at t;rw[M.all_bind]at h;have K:=wC T n (by omega);refine calls_of_wp m k (AA7 U.fol j fn.body c st _ _ w I μ _ _ r H s K S h fun A x w' O=>?_);obtain⟨p,a,J,ν,d,u,R,B,F⟩:=O;have key:∀v,results fn.results a.h p=some v->Q (v,a)->x.defers=[]/\∃g,(Go.results D x.tmps).run P w'=.ok g w'/\∃rv' v a J ν,Ending.returned g=.returned rv'/\Q (v,a)/\CQ base w0 J ν a w'/\BO J ν v rv'/\Nx I μ st (fun _=>False) J ν a:=by intro v l z;obtain⟨g,N,y⟩:=xY (P:=P) u R q l;exact⟨F,g,N,g,v,a,J,ν,rfl,z,u,y,B⟩
  unfold Al at d;cases A with
  |normal=>
   simp only at d;split at d
   ·rename_i v l;exact key v l d
   ·exact d.elim
  |exit i=>exact d.elim
  |ret=>
   simp only at d;split at d
   ·rename_i v l;exact key v l d
   ·exact d.elim
 ·exact h.elim
theorem Xa{v F:AV}{L:Value}{b:St}{c:Nat}(H:CQ base w0 I μ st w)(l:CQ w.heap.size ⟨w,I⟩ J ν b w')(B:I.le J)(P:BO J ν v L)(N:Ce c b.h Ck v=some F)(g:∀o d,o<c->ν o=some d->μ o=some d)(y:b.lo<=c):∃K,CQ base w0 K μ st w'/\BO K μ F L/\I.le K:=by
 have j:=H.grown (w':=w') l.below;have D:=dP (c:=c) l;have n:=HY.le_trans B D;have m:∀r,Qd ν c b.h r->w.heap.size<=r:=fun r ⟨o,x,d,k,f,t,s⟩=>by rw[←s];exact l.lo o x d f t (DV y k)
 have e:∀r,r<w.heap.size->(∀a,(UM J ν c b.h w').cell r a=I.cell r a)/\(UM J ν c b.h w').map r=I.map r:=fun r p=>by
  obtain⟨A,z⟩:=l.XP r p;have q:¬Qd ν c b.h r:=fun q=>by have:=m r q;omega
  refine⟨fun a=>?_,?_⟩
  ·simp only[UM,AJ q];exact A a
  ·simp only[UM,AJ q];exact z
 refine⟨UM J ν c b.h w',⟨j.below,j.lC,fun r a u h=>?_,fun r S h=>?_,j.jS,fun o ob d h R=>(j.obj o ob d h R).mono n (fun _ _ h=>h),j.lo,j.sep,fun o x d i k f t s=>?_,fun o x d k f=>?_,j.Bi,fun r p=>?_⟩,bM l g _ _ _ _ N P,n⟩
 ·simp only[UM]at h;split at h
  ·exact h
  ·exact l.PM r a u h
 ·simp only[UM]at h;split at h
  ·exact h
  ·exact l.Iy r S h
 ·rw[(e _ (H.obj o x d k f).lt).1 i];exact H.TL o x d i k f t s
 ·rw[(e _ (H.obj o x d k f).lt).2];exact H.MX o x d k f
 ·obtain⟨A,z⟩:=e r (Bt p H.lC);obtain⟨Q,O⟩:=H.XP r p;exact⟨fun a=>(A a).trans (Q a),z.trans O⟩
end
end Go.Am
namespace Go.Am
open Go Go.RowKit
variable {P:Program}
section
variable {G:XG P}{base:Nat}{w0:Start}{I J K:HY}{μ ν:Mu}{st:St}{w w':World}
theorem Mo{c:Nat}:∀{h:Aa} {p:Nat},p<c->AA (Kc c h) p=AA h p
 |[],p,_=>rfl
 |(i,x)::h,p,a=>by
  simp only[Kc,ble_eq,Ad,Aw];split
  ·rw[Mo a,AZ,AJ (by omega)]
  ·rw[AZ,AZ,Mo a]
theorem Yv{c:Nat}:∀{h:Aa} {p:Nat} {x:BJ},holds c h=true->AA h p=some x->p<c/\BJ.CY c x=true
 |[],p,x,_,h=>by simp[AA]at h
 |(i,y)::h,p,x,b,a=>by
  simp only[holds,Aq,blt_eq,Aw]at b;rw[AZ]at a;split at a
  ·rename_i e;cases a;subst e;exact b.1
  ·exact Yv b.2 a
theorem wW{c:Nat}{i:Pl}{ob:BJ}(j:∀o i,o<c->ν o=some i->μ o=some i)(m:J.le K)(h:Qc J ν w i ob)(g:BJ.CY c ob=true):Qc K μ w i ob:=by
 cases h with
 |cells F B y ext r u n l e f d b A h z p=>exact .cells F B y ext r u n l e f d b A (JG j m h g) z p
 |map t x s clock D b e f d v L k H p=>simp only[BJ.CY,Aq]at g;exact .map t x s clock D b e f d (JG j m v g.1) (JG j m L g.2) k H p
 |MB since seen a b e f d=>exact .MB since seen a b e f d
 |iter o q since seen a b e f I d=>simp only[BJ.CY,blt_eq,Aw]at g;exact .iter o q since seen a b e f (j _ _ g I) d
def Tf(ν:Mu)(c:Nat):Mu:=fun o=>if o<c then ν o else none
theorem ACZ{c:Nat}{v D:AV}{F:Value}(H:CQ base w0 J ν st w)(V:BO J ν v F)(N:Ce c st.h Ck v=some D)(Q:holds c (Kc c st.h)=true)(t:st.lo<=c) :
 ∃K,CQ base w0 K (Tf ν c) { st with h:=Kc c st.h,c:=c } w/\BO K (Tf ν c) D F/\J.le K:=by
 have l:=dP (c:=c) H;have B:∀o a,o<c->ν o=some a->Tf ν c o=some a:=fun o a f d=>by simp[Tf,f,d]
 have b:∀o a,Tf ν c o=some a->ν o=some a:=fun o a h=>by
  unfold Tf at h;split at h
  ·exact h
  ·cases h
 have e:∀o x,AA (Kc c st.h) o=some x->o<c/\AA st.h o=some x/\BJ.CY c x=true:=fun o x h=>by obtain⟨f,d⟩:=Yv Q h;exact⟨f,by rw[←Mo f];exact h,d⟩
 have m:∀o x a,o<c->AA st.h o=some x->ν o=some a->¬Qd ν c st.h a.r:=fun o x a f d j ⟨T,O,z,k,g,A,I⟩=>H.sep T o O x z a g d A j (by omega) I;refine⟨UM J ν c st.h w,⟨H.below,H.lC,fun r s u h=>?_,fun r S h=>?_,fun o P=>?_,fun o ob a h q=>?_,fun o ob a h q=>?_,fun o p x y a L f d j n=>?_,fun o x a i f d j n=>?_,fun o x a f d=>?_,fun o x h=>(e o x h).1,fun r R=>?_⟩,bM H B _ _ _ _ N V,l⟩
 ·simp only[UM]at h;split at h
  ·exact h
  ·exact H.PM r s u h
 ·simp only[UM]at h;split at h
  ·exact h
  ·exact H.Iy r S h
 ·simp only at P;simp only[Tf];rw[AJ (by omega)]
 ·obtain⟨f,d,j⟩:=e o ob h;exact wW B l (H.obj o ob a d (b o a q)) j
 ·exact H.lo o ob a (e o ob h).2.1 (b o a q)
 ·exact H.sep o p x y a L (e o x f).2.1 (e p y d).2.1 (b _ _ j) (b _ _ n)
 ·obtain⟨k,g,_⟩:=e o x f;simp only[UM,AJ (m o x a k g (b _ _ d))];exact H.TL o x a i g (b _ _ d) j n
 ·obtain⟨k,g,_⟩:=e o x f;simp only[UM,AJ (m o x a k g (b _ _ d))];exact H.MX o x a g (b _ _ d)
 ·have U:¬Qd ν c st.h r:=fun⟨o,x,a,k,g,A,I⟩=>by have:=H.lo o x a g A (DV t k);omega
  simp only[UM,AJ U];exact H.XP r R
theorem kI{α:Type}{f:α->Bool}:∀{m:M α},m.ZW f=true->m.all fun a=>f a=true
 |.ret a,h=>h
 |.fail,h=>by cases h
 |.ask n k,h=>fun i b=>kI (Fj.1 h i (Gd.2 (by omega)))
theorem qd{α:Type}{Q R:α->Prop}:∀{m:M α},m.all Q->m.all R->m.all fun a=>Q a/\R a
 |.ret a,h,k=>⟨h,k⟩
 |.fail,h,_=>h
 |.ask n k,h,c=>fun i b=>qd (h i b) (c i b)
theorem Ul{c:Nat}{st:St}{f:AV×St->Bool}:∀{m:M (AV×St)},(m.bind (BU c st)).ZW f=true->(m.bind (BU c st)).all fun r=>r.2=st
 |.ret r,h=>by
  simp only[M.bind,BU]at h⊢;split
  ·rfl
  ·rename_i e;rw[e]at h;cases h
 |.fail,h=>by cases h
 |.ask n k,h=>fun i a=>Ul (Fj.1 h i (Gd.2 (by omega)))
theorem Zq{c:Nat}{st:St}{m:M (AV×St)}{Q:AV×St->Prop}(h:(Jj st (m.bind (BU c st))).all Q):(m.bind (BU c st)).all Q:=by
 unfold Jj at h;split at h
 ·rename_i r f;rw[Ad]at h;split at h
  ·rename_i b;refine M.Sa (qd (kI b) (Ul b)) fun d a=>?_;have:=AV.beq_eq a.1;have e:d=(r.1,st):=by rw[this,←a.2]
   rw[e];exact h
  ·exact h.elim
 ·exact h.elim
 mutual
theorem aL:∀{v:AV} {rv:Value},BO J ν v rv->v.plain=true->BO I μ v rv
 |_,_,.bool b,_=>.bool b
 |_,_,.int k n,_=>.int k n
 |_,_,.str l,_=>.str l
 |_,_,.agg cs rvs h h1,hp=>.agg cs rvs (Tp h (by simpa [AV.plain]using hp)) h1
 |_,_,.tuple cs rvs h,hp=>.tuple cs rvs (Tp h (by simpa [AV.plain]using hp))
theorem Tp:∀{l:List AV} {rl:List Value},BR J ν l rl->AV.YS l=true->BR I μ l rl
 |_,_,.nil,_=>.nil
 |_,_,.cons v rv l rl h t,hp=>by simp only[AV.YS,Aq]at hp;exact .cons v rv l rl (aL h hp.1) (Tp t hp.2)
end
theorem zB(T:Sound G):∀n,MU P G.GT (Ab G.E n):=by
 intro n;induction n with
 |zero=>intro f args st Q h;exact h.elim
 |succ n Z=>
  intro f args st Q h base w0 I μ w L H S V W;unfold Ab at h;split at h
  ·rename_i g hg;split at h
   ·rename_i r hv;obtain⟨v,m⟩:=r;obtain⟨a,q⟩:=T.WG f g hg args v st m hv base w0 I μ w L V H S W;refine⟨a,Jq q fun e w' t=>?_⟩;obtain⟨s,K,z,b,A,B,d,e6,e7⟩:=t;exact⟨s,v,m,K,μ,z,h,A,b,B,fun _ _ h=>h,fun _ _ _=>rfl,by rw[d];exact Ao _,e6,fun p l _ hn=>e7 p l hn⟩
   ·exact h.elim
  ·split at h
   ·exact h.elim
   ·rename_i fn a4;have Y:=T.code f fn a4;split at h
    ·exact RG T Z Y h H S V W
    ·rw[M.all_bind]at h;obtain⟨a,q⟩:=RG T Z Y h H S V W;refine⟨a,Jq q fun e w' t=>?_⟩;obtain⟨s,v,m,J,ν,z,b,A,B,d⟩:=t;unfold Kn at b;split at b
     ·rename_i D k;rw[Ad]at b;split at b
      ·rename_i hh;obtain⟨K,N,R,O⟩:=ACZ A B k hh (by rw[d.lo];exact S);refine⟨s,D,_,K,Tf ν st.c,z,b,N,R,HY.le_trans d.PM O,fun p j l=>?_,fun p l _=>?_,Ao _,d.lo,fun p l hs hn=>?_⟩
       ·have a3:p<st.c:=by
         rcases FU p st.c with h|h
         ·exact h
         ·rw[H.jS p h]at l;cases l
        simp only[Tf,a3,FC];exact d.le p j l
       ·simp only[Tf,l,FC];exact d.same p l (fun h=>h)
       ·show AA (Kc st.c m.h) p=_;rw[Mo l];exact d.kept p l (fun h=>h) hn
      ·exact b.elim
     ·exact b.elim
    ·rw[M.all_bind]at h;have U:CQ w.heap.size ⟨w,I⟩ I μ { st with lo:=st.c } w:=
      ⟨Below.refl _ _,Ao _,H.PM,H.Iy,H.jS,H.obj,fun o x j a q h3=>absurd (H.Bi o x a) (by simp only at h3;omega),H.sep,H.TL,H.MX,H.Bi,fun r _=>⟨fun _=>rfl,rfl⟩⟩
     obtain⟨a,q⟩:=RG T Z Y h U (Ao _) V W;refine⟨a,Jq q fun e w' t=>?_⟩;obtain⟨s,v,m,J,ν,z,b,A,B,d⟩:=t;unfold BU at b;split at b
     ·rename_i D k;obtain⟨K,N,R,O⟩:=Xa H A d.PM B k (fun o j F l=>by rw[←d.same o F (fun h=>h)];exact l) (by rw[d.lo];exact Ao _);exact⟨s,D,st,K,μ,z,b,N,R,O,fun _ _ h=>h,fun _ _ _=>rfl,Ao _,rfl,fun _ _ _ _=>rfl⟩
     ·exact b.elim
    ·have h:=Zq h;rw[M.all_bind]at h;have U:CQ w.heap.size ⟨w,I⟩ I μ { st with lo:=st.c } w:=
      ⟨Below.refl _ _,Ao _,H.PM,H.Iy,H.jS,H.obj,fun o x j a q h3=>absurd (H.Bi o x a) (by simp only at h3;omega),H.sep,H.TL,H.MX,H.Bi,fun r _=>⟨fun _=>rfl,rfl⟩⟩
     obtain⟨a,q⟩:=RG T Z Y h U (Ao _) V W;refine⟨a,Jq q fun e w' t=>?_⟩;obtain⟨s,v,m,J,ν,z,b,A,B,d⟩:=t;unfold BU at b;split at b
     ·rename_i D k;obtain⟨K,N,R,O⟩:=Xa H A d.PM B k (fun o j F l=>by rw[←d.same o F (fun h=>h)];exact l) (by rw[d.lo];exact Ao _);exact⟨s,D,st,K,μ,z,b,N,R,O,fun _ _ h=>h,fun _ _ _=>rfl,Ao _,rfl,fun _ _ _ _=>rfl⟩
     ·exact b.elim
    ·rw[Ad]at h;split at h
     ·rename_i a1;rw[M.all_bind]at h;have U:CQ w.heap.size ⟨w,I⟩ I (fun _=>none) ⟨[],0,0⟩ w:=
       ⟨Below.refl _ _,Ao _,H.PM,H.Iy,fun _ _=>rfl,fun o x j a=>(by cases a),fun o x j a=>(by cases a),fun o p x y j pm a=>(by cases a),fun o x j i a=>(by cases a),fun o x j a=>(by cases a),fun o x a=>(by cases a),fun r _=>⟨fun _=>rfl,rfl⟩⟩
      obtain⟨a,q⟩:=RG T Z Y h U (Ao _) V (JG (c:=0) (fun o j F _=>absurd F (Nat.not_lt_zero _)) (HY.le_refl I) W a1);refine⟨a,Jq q fun e w' t=>?_⟩;obtain⟨s,v,m,J,ν,z,b,A,B,d⟩:=t;unfold BU at b;split at b
      ·rename_i D k;obtain⟨K,N,R,O⟩:=Xa (μ:=μ) H A d.PM B k (fun o j F _=>absurd F (Nat.not_lt_zero _)) (by rw[d.lo];exact Ao _);exact⟨s,D,st,K,μ,z,b,N,R,O,fun _ _ h=>h,fun _ _ _=>rfl,Ao _,rfl,fun _ _ _ _=>rfl⟩
      ·exact b.elim
     ·rw[M.all_bind]at h;have U:CQ w.heap.size ⟨w,I⟩ I μ { st with lo:=st.c } w:=
       ⟨Below.refl _ _,Ao _,H.PM,H.Iy,H.jS,H.obj,fun o x j a q h3=>absurd (H.Bi o x a) (by simp only at h3;omega),H.sep,H.TL,H.MX,H.Bi,fun r _=>⟨fun _=>rfl,rfl⟩⟩
      obtain⟨a,q⟩:=RG T Z Y h U (Ao _) V W;refine⟨a,Jq q fun e w' t=>?_⟩;obtain⟨s,v,m,J,ν,z,b,A,B,d⟩:=t;unfold BU at b;split at b
      ·rename_i D k;obtain⟨K,N,R,O⟩:=Xa H A d.PM B k (fun o j F l=>by rw[←d.same o F (fun h=>h)];exact l) (by rw[d.lo];exact Ao _);exact⟨s,D,st,K,μ,z,b,N,R,O,fun _ _ h=>h,fun _ _ _=>rfl,Ao _,rfl,fun _ _ _ _=>rfl⟩
      ·exact b.elim
    ·split at h
     ·rename_i a0 ht;rw[M.all_bind]at h;have a5:=dP (c:=0) H;have a6:BR (UM I μ 0 st.h w) (fun _=>none) a0 L:=JD (fun v D s a q=>bM H (fun o j F _=>absurd F (Nat.not_lt_zero _)) _ v D s a q) ht W;have U:CQ w.heap.size ⟨w,UM I μ 0 st.h w⟩ (UM I μ 0 st.h w) (fun _=>none) ⟨[],0,0⟩ w:=
       ⟨Below.refl _ _,Ao _,fun r a2 u h=>(by
        simp only[UM]at h
        split at h
        ·exact h
        ·exact H.PM r a2 u h),fun r es h=>(by
        simp only[UM]at h
        split at h
        ·exact h
        ·exact H.Iy r es h),fun _ _=>rfl,fun o x j a=>(by cases a),fun o x j a=>(by cases a),fun o p x y j pm a=>(by cases a),fun o x j i a=>(by cases a),fun o x j a=>(by cases a),fun o x a=>(by cases a),fun r _=>⟨fun _=>rfl,rfl⟩⟩
      obtain⟨a,q⟩:=RG T Z Y h U (Ao _) (V.mono a5) a6;refine⟨a,Jq q fun e w' t=>?_⟩;obtain⟨s,v,m,J,ν,z,b,A,B,d⟩:=t;unfold LC at b;rw[Ad]at b;split at b
      ·rename_i l;exact⟨s,v,st,I,μ,z,b,H.grown A.below,aL B l,Nx.refl _ _ _ _⟩
      ·exact b.elim
     ·exact h.elim
end
end Go.Am
