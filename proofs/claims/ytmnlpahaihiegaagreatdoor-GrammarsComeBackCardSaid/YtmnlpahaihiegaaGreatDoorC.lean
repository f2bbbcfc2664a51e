/- A part of the proof of grammarsComeBack (merged by a program). -/
import Derived.Test.YtmnlpahaihiegaaGreatDoorB
import Derived.LoopN
import Derived.Orders
section
namespace Go.Am
open Go Go.RowKit
variable {P:Program}
section
variable {base:Nat}{w0:Start}{I:Cv}{μ:Mu}{st:St}{w:World}
def TQ (P:Program)(t:TypeId)(f off:Nat)(agg:Option Nat):Bool:=
 match P.underlying t with
 |some (.struct fs)=>(match fs[f]? with
  |some fd=>Nat.beq fd.offset off&&Rm P fd.type agg
  |none=>false)
 |_=>false
theorem bX {t:TypeId}{f off:Nat}{agg:Option Nat}(ht:TQ P t f off agg=true){x v:AV}{rx:Value}{st':St}(hx:Ae I μ x rx)(h:Lt off agg x st=some (v,st')) :
 st'=st/\∃rv,(Instr.field t rx f).run P w=.ok rv w/\Ae I μ v rv:=by
 unfold TQ at ht
 split at ht
 ·rename_i fs hd
  split at ht
  ·rename_i fd hfd
   rw[Bool.and_eq_true] at ht
   have hoff:=Nat.eq_of_beq_eq_true ht.1
   unfold Lt at h
   cases hx with
   |agg cs rvs hv h1=>
    have hl:=hv.length
    cases agg with
    |some n=>
     obtain⟨d,i,g1,g2,g3,g4⟩:=Si ht.2
     simp only[ble_eq,cond_eq_ite,decide_eq_true_eq] at h
     split at h
     ·rename_i hle
      cases h
      refine⟨rfl,.agg ((rvs.drop off).take n).toArray,?_,.agg _ _ ((hv.drop off).take n) ((h1.drop off).take n)⟩
      simp only[Instr.field,Sem.run_bind,run_underlying hd,Result.andThen_ok,hfd,asAgg,Sem.run_pure,hoff,part,KA g1,g3,if_true,CG g2,g4]
      congr 2
      apply Array.ext'
      simp
     ·cases h
    |none=>
     obtain⟨d,i,g1,g2,g3,g4⟩:=Sj ht.2
     simp only[Df] at h
     split at h
     ·rename_i u hu
      cases h
      obtain⟨rv,r1,r2⟩:=hv.get off v hu
      refine⟨rfl,rv,?_,r2⟩
      simp only[Instr.field,Sem.run_bind,run_underlying hd,Result.andThen_ok,hfd,asAgg,Sem.run_pure,hoff,part,KA g1,g3,Bool.false_eq_true,if_false]
      simp[r1]
     ·cases h
   |_=>simp at h
  ·cases ht
 ·cases ht
def MU (b:Bool)(l:List Operand):Option (List Operand):=bif b then some l else none
theorem BQ {b:Bool}{l os:List Operand}(h:MU b l=some os):b=true/\os=l:=by
 unfold MU at h; cases b <;> simp at h; exact⟨rfl,h.symm⟩
def isInt (P:Program)(t:TypeId)(k:Option IntKind):Bool:=match P.underlying t with
 |some (.int j)=>(match k with|some k=>Nt j k|none=>true)
 |_=>false
def isStr (P:Program)(t:TypeId):Bool:=match P.underlying t with
 |some .string=>true
 |_=>false
def Kt (P:Program)(t:TypeId):TypeId:=match P.underlying t with
 |some (.slice e)=>e
 |some (.array _ e)=>e
 |some (.pointer e)=>e
 |_=>0
def QQ (P:Program)(t:TypeId):Bool:=match P.underlying t with
 |some (.interface _)=>false
 |some _=>true
 |none=>false
def Wu (P:Program)(t:TypeId):Bool:=match P.underlying t with
 |some (.int _)=>false
 |some _=>true
 |none=>false
def Fx (P:Program)(k:AK)(src dst:TypeId):Bool:=
 match k with
 |.Ab j=>isInt P src none&&isInt P dst (some j)
 |.IJ=>(isStr P src||isInt P src none)&&isStr P dst
 |.Gx _ ty=>jA P src dst ty
 |.Ir=>kJ P src dst
 |.ND ty n=>WK P src dst ty n
 |_=>false
def IB (P:Program)(k:AK)(op:BinOp)(t:TypeId)(x y:Operand):Bool:=
 match k with
 |.bin op'=>decide (op=op')
 |.eq neg k=>decide (op=if neg then .neq else .eql)&&iK P t x y k
 |.PV neg ts=>decide (op=if neg then .neq else .eql)&&pJ P t ts
 |_=>false
def Dq (P:Program)(k:AK)(t:TypeId)(l h m:Bool):Bool:=
 match k with
 |.BH lo hi=>isStr P t&&lo==l&&hi==h&&!m
 |.slice sz lo hi mx=>MW P t (Kt P t) sz&&lo==l&&hi==h&&mx==m&&(!m||h)
 |.IM len sz lo hi=>Zm P t len (Kt P t) sz&&lo==l&&hi==h&&!m
 |_=>false
def FI (P:Program)(k:AK)(t:TypeId):Bool:=
 match k with
 |.indexAddr sz=>MW P t (Kt P t) sz
 |.Cy len sz=>Zm P t len (Kt P t) sz
 |_=>false
def FC (P:Program)(k:AK)(b:Builtin)(ts:List TypeId):Bool:=
 match b,ts with
 |.len,[t]=>(match k with|.len lk=>jQ P t lk|_=>false)
 |.cap,[t]=>(match k with|.cap=>(match P.underlying t with|some (.slice _)=>true|_=>false)|_=>false)
 |.min,_=>(match k with|.min=>true|_=>false)
 |.max,_=>(match k with|.max=>true|_=>false)
 |.append,[t,u]=>(match k with
  |.append _ ty sz bytes=>FN P t ty sz bytes&&Wu P u
  |.JH _ ty=>FN P t ty 1 1&&isStr P u
  |_=>false)
 |.copy,[t,_]=>(match k with|.copy sz=>MW P t (Kt P t) sz|_=>false)
 |.clear,[t]=>(match k with|.clear zero=>(match P.info? (Kt P t) with|some i=>KI P t (Kt P t) i.size i.bytes zero|none=>false)|_=>false)
 |.unsafeSliceData,_=>(match k with|.LJ=>true|_=>false)
 |.unsafeString,[t,_]=>(match k with|.JE ty=>WJ P t ty|_=>false)
 |_,_=>false
def Iu (P:Program)(X:Nat->Option Ext)(k:AK)(c:Call):Option (List Operand):=
 match c.callee with
 |.builtin b=>MU (FC P k b c.argTypes.toList) c.args.toList
 |.invoke r name=>(match k with|.invoke n=>MU (n==name) (r::c.args.toList)|_=>none)
 |.value f=>(match k with
  |.call g=>(match f with|.func f=>MU (Nat.beq f g) c.args.toList|_=>none)
  |.ext _=>(match f with|.func f=>(match X f with|some e=>MU (match k,e with|.ext .same,.same=>true|.ext .indexByte,.indexByte=>true|.ext .compare,.compare=>true|_,_=>false) c.args.toList|none=>none)|_=>none)
  |.Bi=>some (f::c.args.toList)
  |_=>none)
def Ms (P:Program)(X:Nat->Option Ext)(k:AK)(op:Op):Option (List Operand):=
 match op with
 |.move x=>(match k with|.move=>some [x]|_=>none)
 |.assign x=>(match k with|.move=>some [x]|_=>none)
 |.pick c a b=>(match k with|.pick=>some [c,a,b]|_=>none)
 |.alloc e=>(match k with|.alloc _ ty _ zero=>MU (Nat.beq e ty&&Rn P ty zero) []|_=>none)
 |.box e x=>(match k with|.box _ ty _=>MU (Nat.beq e ty) [x]|_=>none)
 |.build t parts=>(match k with|.build zero places=>MU (Xg P t parts.toList zero places) (parts.toList.map (·.2))|_=>none)
 |.buildSlice t n parts=>(match k with|.buildSlice _ ty sz len zero offs=>MU (Nat.beq n len&&Li P t ty sz len parts.toList zero offs) (parts.toList.map (·.2))|_=>none)
 |.load t a=>(match k with|.load agg=>MU (Rm P t agg) [a]|_=>none)
 |.store t a x=>(match k with|.store n=>MU ((P.info? t).map (·.size)==some n) [a,x]|_=>none)
 |.nilCheck x=>(match k with|.nilCheck=>some [x]|_=>none)
 |.binOp op t x y _=>MU (IB P k op t x y) [x,y]
 |.unOp op _ x=>(match k with|.un op'=>MU (decide (op=op')) [x]|_=>none)
 |.convert src dst x=>MU (Fx P k src dst) [x]
 |.makeInterface t x=>(match k with|.BZ u=>MU (Nat.beq t u&&QQ P t) [x]|_=>none)
 |.makeFunc f first captured=>(match k with|.Im g n=>MU (decide (f=g)&&Nat.beq n first.size) (first.toList++captured.toList)|_=>none)
 |.makeMap _ r=>(match k with|.mkMap _=>MU r.isNone []|_=>none)
 |.makeSlice t l c=>(match k with|.mkSlice _ ty sz bytes zero=>MU (KI P t ty sz bytes zero) [l,c]|_=>none)
 |.slice t x l h m=>MU (Dq P k t l.isSome h.isSome m.isSome) (x::(l.toList++(h.toList++m.toList)))
 |.fieldAddr s x f=>(match k with|.fieldAddr off=>MU (TR P s f off) [x]|_=>none)
 |.field s x f=>(match k with|.field off agg=>MU (TQ P s f off agg) [x]|_=>none)
 |.indexAddr t x i=>MU (FI P k t) [x,i]
 |.index t x i=>(match k with|.Ag=>MU (isStr P t) [x,i]|_=>none)
 |.lookup t x i ok=>(match k with|.lookup kk zero ok'=>MU (KJ P t kk zero&&ok==ok') [x,i]|_=>none)
 |.mapUpdate t m i x=>(match k with|.mapUpdate kk=>MU (eX P t kk) [m,i,x]|_=>none)
 |.insert t m i x=>(match k with|.mapUpdate kk=>MU (eX P t kk) [m,i,x]|_=>none)
 |.mapEntry t m i=>(match k with|.mapEntry kk zero=>MU (KJ P t kk zero) [m,i]|_=>none)
 |.entryStore _ m s x=>(match k with|.entryStore=>some [m,s,x]|_=>none)
 |.range t x=>(match k with|.rangeMap _=>MU (az P t) [x]|_=>none)
 |.next it isString=>(match k with|.next=>MU (!isString) [it]|_=>none)
 |.entry it=>(match k with|.entry=>some [it]|_=>none)
 |.extract t i=>(match k with|.extract j=>MU (Nat.beq i j) [t]|_=>none)
 |.call c=>Iu P X k c
 |_=>none
def Dk:AK->Option Nat
 |.alloc id _ _ _|.box id _ _|.buildSlice id _ _ _ _ _|.Gx id _|.mkMap id|.mkSlice id _ _ _ _|.rangeMap id|.append id _ _ _|.JH id _=>some id
 |_=>none
def Xo (s:Nat)(μ:Mu)(st:St)(k:AK):Prop:=∀id,Dk k=some id->μ (s+id)=none/\s+id<st.c/\st.lo<=s+id
def BO (P:Program)(base:Nat)(w0:Start)(I:Cv)(μ:Mu)(st:St)(w:World)(o:Option Nat)(e:Sem Next)(v:AV)(st':St):Prop:=
 ∃n rv w' ν,e.run P w=.ok n w'/\(n=.value rv∨(n=.skip/\rv=undef))/\Tq base w0 I μ st o ν st' w' v rv
theorem BO.Vz {o:Option Nat}{e:Sem Value}{v:AV}{st':St}(h:Mw P base w0 I μ st w o e v st'):BO P base w0 I μ st w o (do pure (.value (← e))) v st':=by
 obtain⟨rv,w',ν,h1,h2⟩:=h
 exact⟨.value rv,rv,w',ν,by simp[h1,Result.andThen],.inl rfl,h2⟩
theorem BO.dw (H:Ay base w0 I μ st w){o:Option Nat}{e:Sem Unit}{v:AV}{st':St}(hv:v=.undef)(h:gX P base w0 I μ st w e st'):BO P base w0 I μ st w o (do e; pure .skip) v st':=by
 obtain⟨w',h1,h2,h3,h4⟩:=h
 subst hv
 exact⟨.skip,undef,w',μ,by simp[h1,Result.andThen],.inr ⟨rfl,rfl⟩,h2,.tuple [] [] .nil,fun _ _ h=>h,fun _ _=>rfl,h3,h4⟩
theorem BO.stay (H:Ay base w0 I μ st w){o:Option Nat}{e:Sem Value}{v:AV}{st':St}(h:st'=st/\∃rv,e.run P w=.ok rv w/\Ae I μ v rv):BO P base w0 I μ st w o (do pure (.value (← e))) v st':=by
 obtain⟨rfl,rv,h1,h2⟩:=h
 exact BO.Vz (Mw.stay H h1 h2)
theorem BO.pure (H:Ay base w0 I μ st w){o:Option Nat}{v:AV}{rv:Value}(h:Ae I μ v rv):BO P base w0 I μ st w o (Pure.pure (.value rv)) v st:=
 ⟨.value rv,rv,w,μ,rfl,.inl rfl,H,h,fun _ _ h=>h,fun _ _=>rfl,rfl,rfl⟩
theorem Te (H:Ay base w0 I μ st w){o:Nat}{r:B}{v:AV}{st':St}(h:MJ o r st=some (v,st'))(hμ:μ o=none)(ho:o<st.c) :
 ∃ob,r=some (v,ob)/\Ay base w0 I μ st' w/\AA st'.h o=some ob/\st'.c=st.c/\st'.lo=st.lo:=by
 unfold MJ CO at h
 split at h
 ·rename_i v' ob
  split at h
  ·rename_i st1 hn
   cases h
   obtain⟨h1,h2,h3,h4,_⟩:=OO H hn hμ ho
   exact⟨ob,rfl,h1,h2,h3,h4⟩
  ·cases h
 ·cases h
theorem BO.born {st1:St}{o:Nat}{e:Sem Next}{v:AV}(hc:st1.c=st.c)(hl:st1.lo=st.lo)(h:BO P base w0 I μ st1 w (some o) e v st1):BO P base w0 I μ st w (some o) e v st1:=by
 obtain⟨n,rv,w',ν,h1,h2,h3⟩:=h
 exact⟨n,rv,w',ν,h1,h2,h3.rel,h3.val,h3.le,h3.same,hc,hl⟩
end
end Go.Am
end
section
namespace Go.Am
open Go Go.RowKit
variable {P:Program}
section
variable {base:Nat}{w0:Start}{I:Cv}{μ:Mu}{st:St}{w:World}
theorem SE {a b c a' b' c':Option Value}(h:a.toList++(b.toList++c.toList)=a'.toList++(b'.toList++c'.toList))(ha:a.isSome=a'.isSome)(hb:b.isSome=b'.isSome)(hc:c.isSome=c'.isSome):a=a'/\b=b'/\c=c':=by
 cases a <;> cases a' <;> cases b <;> cases b' <;> cases c <;> cases c' <;> simp_all
theorem ah (ρ:Operand->Value)(a b c:Option Operand):(a.toList++(b.toList++c.toList)).map ρ=(a.map ρ).toList++((b.map ρ).toList++(c.map ρ).toList):=by
 cases a <;> cases b <;> cases c <;> rfl
theorem OA {ρ:Operand->Value}(a:Option Operand):(a.map ρ).isSome=a.isSome:=by cases a <;> rfl
theorem LX {t:TypeId}(h:isStr P t=true):P.underlying t=some .string:=by
 unfold isStr at h; split at h
 ·assumption
 ·cases h
theorem Qe {t:TypeId}{k:Option IntKind}(h:isInt P t k=true):∃j,P.underlying t=some (.int j)/\∀k',k=some k'->j=k':=by
 unfold isInt at h; split at h
 ·rename_i j hd
  refine⟨j,hd,fun k' hk=>?_⟩
  subst hk
  exact GX h
 ·cases h
theorem bg (H:Ay base w0 I μ st w){s:Nat}{k:AK}{src dst:TypeId}(hk:Fx P k src dst=true){x v:AV}{rx:Value}{st':St}(hx:Ae I μ x rx)(hid:Xo s μ st k)(h:step s k [x] st=some (v,st')) :
 BO P base w0 I μ st w ((Dk k).map (s+·)) (do pure (.value (← convert src dst rx))) v st':=by
 cases k <;> simp only[Fx] at hk <;> first|(cases hk; done)|skip
 case Ab j=>
  rw[Bool.and_eq_true] at hk
  obtain⟨j1,h1,_⟩:=Qe hk.1
  obtain⟨j2,h2,h3⟩:=Qe hk.2
  have:=h3 j rfl
  subst this
  exact BO.stay H (XZ h1 h2 hx h)
 case IJ=>
  rw[Bool.and_eq_true,Bool.or_eq_true] at hk
  exact BO.stay H (XY (hk.1.imp LX fun h=>(Qe h).imp fun _ h=>h.1) (LX hk.2) hx h)
 case Gx id ty=>
  obtain⟨i1,i2,i3⟩:=hid id rfl
  obtain⟨ob,hb,H1,hf,hc,hl⟩:=Te H h i1 i2
  exact BO.born hc hl (BO.Vz (Qt H1 hk hx hb hf i1 (by rw[hc]; exact i2)))
 case Ir=>exact BO.stay H (Xa H hk hx h)
 case ND ty n=>exact BO.stay H (aH H hk hx h)
theorem gK (H:Ay base w0 I μ st w){s:Nat}{k:AK}{op:BinOp}{t:TypeId}{X Y:Operand}(hk:IB P k op t X Y=true){x y v:AV}{rx ry:Value}{st':St}(hx:Ae I μ x rx)(hy:Ae I μ y ry)(o:Option Nat)(h:step s k [x,y] st=some (v,st')) :
 BO P base w0 I μ st w o (do pure (.value (← (do eqGuard op t X Y rx ry; Go.binOp op t rx ry:Sem Value)))) v st':=by
 cases k <;> simp only[IB] at hk <;> first|(cases hk; done)|skip
 case bin op'=>
  simp only[decide_eq_true_eq] at hk
  subst hk
  simp only[step,GD,Df] at h
  split at h
  ·rename_i u hu
   cases h
   exact BO.stay H ⟨rfl,kI hx hy hu X Y⟩
  ·cases h
 case eq neg k=>
  simp only[Bool.and_eq_true,decide_eq_true_eq] at hk
  obtain⟨h1,h2⟩:=hk
  subst h1
  simp only[step,GD,Df] at h
  split at h
  ·rename_i u hu
   cases h
   exact BO.stay H ⟨rfl,mr h2 H hx hy hu⟩
  ·cases h
 case PV neg ts=>
  simp only[Bool.and_eq_true,decide_eq_true_eq] at hk
  obtain⟨h1,h2⟩:=hk
  subst h1
  exact BO.stay H (fG h2 hx hy h)
theorem Yk (H:Ay base w0 I μ st w){s:Nat}{k:AK}{t:TypeId}{l hh m:Option Operand}(hk:Dq P k t l.isSome hh.isSome m.isSome=true){ρ:Operand->Value}{x:AV}{args:List AV}{v:AV}{rx:Value}{st':St}(hx:Ae I μ x rx)(ha:Ah I μ args ((l.toList++(hh.toList++m.toList)).map ρ))(o:Option Nat)(h:step s k (x::args) st=some (v,st')) :
 BO P base w0 I μ st w o (do pure (.value (← Instr.sliceAt t rx (l.map ρ) (hh.map ρ) (m.map ρ)))) v st':=by
 rw[ah] at ha
 have conv:∀{b:Bool} {a:Option Operand} {r:Option Value},b=a.isSome->(b=true↔r.isSome=true)->r.isSome=(a.map ρ).isSome:=by
  intro b a r h1 h2
  rw[OA,← h1]
  cases b <;> cases hr:r.isSome <;> simp_all
 cases k <;> simp only[Dq] at hk <;> first|(cases hk; done)|skip
 case BH lo hi=>
  simp only[Bool.and_eq_true,beq_iff_eq,Bool.not_eq_true'] at hk
  obtain⟨⟨⟨h1,h2⟩,h3⟩,h4⟩:=hk
  have hm:m=none:=by cases m <;> simp_all
  subst hm
  simp only[Option.map_none,Option.toList_none,List.append_nil] at ha
  obtain⟨e1,rlo,rhi,e2,e3,e4,e5⟩:=UF (LX h1) hx ha h
  obtain⟨g1,g2,_⟩:=SE (c:=none) (c':=none) (by simpa using e2.symm) (conv h2 e3) (conv h3 e4) rfl
  subst g1 g2
  exact BO.stay H ⟨e1,e5⟩
 case slice sz lo hi mx=>
  simp only[Bool.and_eq_true,beq_iff_eq,Bool.or_eq_true,Bool.not_eq_true'] at hk
  obtain⟨⟨⟨⟨h1,h2⟩,h3⟩,h4⟩,h5⟩:=hk
  obtain⟨e1,rlo,rhi,rmx,e2,e3,e4,e6,e5⟩:=aT H h1 hx ha (by intro q; rw[h4] at q; rw[h3]; rcases h5 with h5|h5 <;> simp_all) h
  obtain⟨g1,g2,g3⟩:=SE e2.symm (conv h2 e3) (conv h3 e4) (conv h4 e6)
  subst g1 g2 g3
  exact BO.stay H ⟨e1,e5⟩
 case IM len sz lo hi=>
  simp only[Bool.and_eq_true,beq_iff_eq,Bool.not_eq_true'] at hk
  obtain⟨⟨⟨h1,h2⟩,h3⟩,h4⟩:=hk
  have hm:m=none:=by cases m <;> simp_all
  subst hm
  simp only[Option.map_none,Option.toList_none,List.append_nil] at ha
  obtain⟨e1,rlo,rhi,e2,e3,e4,e5⟩:=UG H h1 hx ha h
  obtain⟨g1,g2,_⟩:=SE (c:=none) (c':=none) (by simpa using e2.symm) (conv h2 e3) (conv h3 e4) rfl
  subst g1 g2
  exact BO.stay H ⟨e1,e5⟩
theorem ZG {t:TypeId}(h:Wu P t=true):∃d,P.underlying t=some d/\∀k,d≠.int k:=by
 unfold Wu at h; split at h
 ·cases h
 ·rename_i d hne hd; exact⟨d,hd,fun k e=>by subst e; exact hne k rfl⟩
 ·cases h
theorem Vi (H:Ay base w0 I μ st w){s:Nat}{k:AK}{b:Builtin}{ts:List TypeId}(hk:FC P k b ts=true){args:List AV}{rargs:List Value}{v:AV}{st':St}(ha:Ah I μ args rargs)(hid:Xo s μ st k)(h:step s k args st=some (v,st'))(ty:TypeId)(cs:Array Bool):BO P base w0 I μ st w ((Dk k).map (s+·)) (builtin b ts.toArray ty cs rargs.toArray) v st':=by
 unfold FC at hk
 split at hk
 ·rename_i t
  cases k <;> simp at hk
  obtain⟨x,rfl,h⟩:=Az h
  obtain⟨rx,rfl,hx⟩:=ha.one
  exact BO.stay H (jP H hk hx h)
 ·rename_i t
  cases k <;> simp at hk
  obtain⟨x,rfl,h⟩:=Az h
  obtain⟨rx,rfl,hx⟩:=ha.one
  split at hk
  ·rename_i hd
   exact BO.stay H (kG hd hx h)
  ·cases hk
 ·cases k <;> simp at hk
  exact BO.stay H (jL _ _ ha h)
 ·cases k <;> simp at hk
  exact BO.stay H (jN _ _ ha h)
 ·rename_i t u
  cases k <;> simp at hk
  ·rename_i id e sz bytes
   obtain⟨i1,i2,i3⟩:=hid id rfl
   obtain⟨x,y,rfl,h⟩:=BM h
   obtain⟨rx,ry,rfl,hx,hy⟩:=ha.two
   obtain⟨d,d1,d2⟩:=ZG hk.2
   exact BO.Vz (Zo H hk.1 d1 d2 hx hy h i1 i2 i3)
  ·rename_i id e
   obtain⟨i1,i2,i3⟩:=hid id rfl
   obtain⟨x,y,rfl,h⟩:=BM h
   obtain⟨rx,ry,rfl,hx,hy⟩:=ha.two
   exact BO.Vz (Tf H hk.1 (LX hk.2) hx hy h i1 i2 i3)
 ·rename_i t u
  cases k <;> simp at hk
  obtain⟨x,y,rfl,h⟩:=BM h
  obtain⟨rx,ry,rfl,hx,hy⟩:=ha.two
  exact BO.Vz (gB H hk hx hy h _)
 ·rename_i t
  cases k <;> simp at hk
  split at hk
  ·obtain⟨x,rfl,h⟩:=Az h
   obtain⟨rx,rfl,hx⟩:=ha.one
   exact BO.Vz (bq H hk hx h _)
  ·cases hk
 ·cases k <;> simp at hk
  obtain⟨x,rfl,h⟩:=Az h
  obtain⟨rx,rfl,hx⟩:=ha.one
  exact BO.stay H (YZ hx h)
 ·rename_i t u
  cases k <;> simp at hk
  obtain⟨x,y,rfl,h⟩:=BM h
  obtain⟨rx,ry,rfl,hx,hy⟩:=ha.two
  exact BO.Vz (Tz H hk hx hy h)
 ·cases hk
end
end Go.Am
end
section
namespace Go.Am
open Go Go.RowKit
variable {P:Program}
def Vx (P:Program)(X:Nat->Option Ext):Prop:=
 ∀f e,X f=some e->∀(args:Array Value) (w:World),(callFunc f args).run P w=((YB e args).run P w).andThen fun v w=>.ok (.value v) w
section
variable {base:Nat}{w0:Start}{I:Cv}{μ:Mu}{st:St}{w:World}
theorem YL {l:List AV}{f:AV->B}{r:AV × Al}(h:b1 l f=some r):∃x,l=[x]/\f x=some r:=by
 unfold b1 at h; split at h
 ·exact⟨_,rfl,h⟩
 ·cases h
theorem gM {l:List AV}{f:AV->AV->B}{r:AV × Al}(h:b2 l f=some r):∃x y,l=[x,y]/\f x y=some r:=by
 unfold b2 at h; split at h
 ·exact⟨_,_,rfl,h⟩
 ·cases h
theorem FL (l:List Operand):MU false l=none:=rfl
def DD:AK->Bool
 |.alloc ..|.box ..|.buildSlice ..|.Gx ..|.mkMap _|.mkSlice ..=>true
 |_=>false
theorem PZ {k:AK}{b:Builtin}{ts:List TypeId}(h:FC P k b ts=true)(hb:DD k=true):False:=by
 unfold FC at h
 split at h <;> cases k <;> simp[DD] at hb h
theorem Fy {X:Nat->Option Ext}{k:AK}{c:Call}{os:List Operand}(h:Iu P X k c=some os)(hb:DD k=true):False:=by
 unfold Iu at h
 split at h
 ·exact PZ (BQ h).1 hb
 ·cases k <;> simp[DD] at hb h
 ·cases k <;> simp[DD] at hb h
theorem Vj (H:Ay base w0 I μ st w){X:Nat->Option Ext}{s id:Nat}{k:AK}{o:Oper}{os:List Operand}(hk:Ms P X k o.op=some os){ρ:Operand->Value}{args:List AV}(ha:Ah I μ args (os.map ρ)){v:AV}{ob:Al}(hb:born s k args=some (v,ob))(hid:Dk k=some id)(hf:AA st.h (s+id)=some ob)(hμ:μ (s+id)=none)(hc:s+id<st.c):BO P base w0 I μ st w (some (s+id)) (execOp ρ o) v st:=by
 obtain⟨dst,op,type,pos,after,guard⟩:=o
 simp only at hk
 cases k <;> simp only[Dk] at hid <;> first|(cases hid; done)|skip
 all_goals (cases hid)
 case alloc ty sz zero=>
  cases hb
  cases op <;> simp only[Ms,IB,Fx,Dq,FI,FL,reduceCtorEq] at hk
  case alloc e=>
   obtain⟨h1,h2⟩:=BQ hk
   try simp only[Bool.and_eq_true] at h1
   have:=Nat.eq_of_beq_eq_true h1.1
   subst this
   exact BO.Vz (dA H h1.2 hf hμ hc)
  case call c=>exact (Fy hk rfl).elim
 case box ty sz=>
  obtain⟨x,rfl,hb⟩:=YL hb
  cases op <;> simp only[Ms,IB,Fx,Dq,FI,FL,reduceCtorEq] at hk
  case box e y=>
   obtain⟨h1,h2⟩:=BQ hk
   try simp only[Bool.and_eq_true] at h1
   have:=Nat.eq_of_beq_eq_true h1
   subst this
   subst h2
   obtain⟨rx,e1,hx⟩:=ha.one
   cases e1
   exact BO.Vz (kH H hx hb hf hμ hc)
  case call c=>exact (Fy hk rfl).elim
 case buildSlice ty sz len zero offs=>
  cases op <;> simp only[Ms,IB,Fx,Dq,FI,FL,reduceCtorEq] at hk
  case buildSlice t n parts=>
   obtain⟨h1,h2⟩:=BQ hk
   try simp only[Bool.and_eq_true] at h1
   have:=Nat.eq_of_beq_eq_true h1.1
   subst this
   subst h2
   have hv:Ah I μ args (parts.toList.map fun p=>ρ p.2):=by simpa [List.map_map,Function.comp_def] using ha
   have:=Rl (P:=P) H h1.2 hv hb hf hμ hc
   exact BO.Vz (by simpa using this)
  case call c=>exact (Fy hk rfl).elim
 case Gx ty=>
  obtain⟨x,rfl,hb⟩:=YL hb
  cases op <;> simp only[Ms,IB,Fx,Dq,FI,FL,reduceCtorEq] at hk
  case convert src dst y=>
   obtain⟨h1,h2⟩:=BQ hk
   try simp only[Bool.and_eq_true] at h1
   subst h2
   obtain⟨rx,e1,hx⟩:=ha.one
   cases e1
   exact BO.Vz (Qt H h1 hx hb hf hμ hc)
  case call c=>exact (Fy hk rfl).elim
 case mkMap=>
  cases hb
  cases op <;> simp only[Ms,IB,Fx,Dq,FI,FL,reduceCtorEq] at hk
  case makeMap t r=>
   obtain⟨h1,h2⟩:=BQ hk
   try simp only[Bool.and_eq_true] at h1
   have hr:r=none:=by simpa using h1
   subst hr
   exact BO.Vz (ay H hf hμ hc)
  case call c=>exact (Fy hk rfl).elim
 case mkSlice ty sz bytes zero=>
  obtain⟨x,y,rfl,hb⟩:=gM hb
  cases op <;> simp only[Ms,IB,Fx,Dq,FI,FL,reduceCtorEq] at hk
  case makeSlice t l c=>
   obtain⟨h1,h2⟩:=BQ hk
   try simp only[Bool.and_eq_true] at h1
   subst h2
   obtain⟨rx,ry,e1,hx,hy⟩:=ha.two
   cases e1
   exact BO.Vz (Wx H h1 hx hy hb hf hμ hc)
  case call c=>exact (Fy hk rfl).elim
 all_goals (cases hb)
end
end Go.Am
end
section
namespace Go.Am
open Go Go.RowKit
variable {P:Program}
section
variable {base:Nat}{w0:Start}{I:Cv}{μ:Mu}{st:St}{w:World}
theorem OJ {s:Nat}{k:AK}{args:List AV}(hb:DD k=true):∃id,Dk k=some id/\step s k args st=MJ (s+id) (born s k args) st:=by
 cases k <;> simp[DD] at hb <;> exact⟨_,rfl,rfl⟩
theorem Ud {t:TypeId}(h:QQ P t=true):∃d,P.underlying t=some d/\∀ms,d≠.interface ms:=by
 unfold QQ at h; split at h
 ·cases h
 ·rename_i d hne hd; exact⟨d,hd,fun k e=>by subst e; exact hne k rfl⟩
 ·cases h
theorem TU {ρ:Operand->Value}{dst:Option Tmp}{b:Builtin}{args:Array Operand}{ts:Array TypeId}{type:TypeId}{pos:String}{after:Array Edge}{g:Option (Nat × Bool)} :
 execOp ρ ⟨dst,.call ⟨.builtin b,args,ts⟩,type,pos,after,g⟩=builtin b ts type (args.map fun|.const _=>true|_=>false) (args.map ρ):=rfl
theorem SL {ρ:Operand->Value}{dst:Option Tmp}{f:FuncId}{args:Array Operand}{ts:Array TypeId}{type:TypeId}{pos:String}{after:Array Edge}{g:Option (Nat × Bool)}(hf:ρ (.func f)=.func (.func f) #[] #[])(w:World) :
 (execOp ρ ⟨dst,.call ⟨.value (.func f),args,ts⟩,type,pos,after,g⟩).run P w=(callFunc f (args.map ρ)).run P w:=by
 have:execOp ρ ⟨dst,.call ⟨.value (.func f),args,ts⟩,type,pos,after,g⟩=(do let d ← Deferred.ofValue (ρ (.func f)) (args.map ρ); invoke d.target d.args):=rfl
 rw[this,hf]
 simp[Deferred.ofValue,invoke,Result.andThen]
theorem cB (H:Ay base w0 I μ st w){X:Nat->Option Ext}(hX:Vx P X){s:Nat}{k:AK}{c:Call}{os:List Operand}(hk:Iu P X k c=some os){ρ:Operand->Value}(hρ:∀f,ρ (.func f)=.func (.func f) #[] #[]){args:List AV}(ha:Ah I μ args (os.map ρ)){v:AV}{st':St}(hid:Xo s μ st k)(h:step s k args st=some (v,st'))(dst:Option Tmp)(type:TypeId)(pos:String)(after:Array Edge)(guard:Option (Nat × Bool)) :
 BO P base w0 I μ st w ((Dk k).map (s+·)) (execOp ρ ⟨dst,.call c,type,pos,after,guard⟩) v st':=by
 obtain⟨callee,cargs,ts⟩:=c
 unfold Iu at hk
 split at hk
 ·rename_i b hb
  simp only at hb hk
  subst hb
  obtain⟨h1,h2⟩:=BQ hk
  subst h2
  rw[TU]
  have:=Vi (P:=P) H h1 ha hid h type (cargs.map fun|.const _=>true|_=>false)
  have e4:(cargs.toList.map ρ).toArray=cargs.map ρ:=by apply Array.ext'; simp
  rw[e4] at this
  exact this
 ·split at hk
  ·simp only[step] at h; cases h
  ·cases hk
 ·rename_i f hf
  simp only at hf
  subst hf
  split at hk
  ·simp only[step] at h; cases h
  ·rename_i e0
   split at hk
   ·rename_i f
    split at hk
    ·rename_i e he
     obtain⟨h1,h2⟩:=BQ hk
     subst h2
     have hee:e0=e:=by cases e0 <;> cases e <;> simp at h1 <;> rfl
     subst hee
     obtain⟨e1,rv,e2,e3⟩:=kD (P:=P) (w:=w) ha h
     subst e1
     refine⟨.value rv,rv,w,μ,?_,.inl rfl,H,e3,fun _ _ h=>h,fun _ _=>rfl,rfl,rfl⟩
     rw[SL (hρ f),hX f e0 he]
     simp only[List.map_toArray] at e2
     have e4:(cargs.toList.map ρ).toArray=cargs.map ρ:=by apply Array.ext'; simp
     rw[e4] at e2
     rw[e2]; rfl
    ·cases hk
   ·cases hk
  ·simp only[step] at h; cases h
  ·cases hk
theorem UC (H:Ay base w0 I μ st w){X:Nat->Option Ext}(hX:Vx P X){s:Nat}{k:AK}{o:Oper}{os:List Operand}(hk:Ms P X k o.op=some os){ρ:Operand->Value}(hρ:∀f,ρ (.func f)=.func (.func f) #[] #[]){args:List AV}(ha:Ah I μ args (os.map ρ)){v:AV}{st':St}(hid:Xo s μ st k)(h:step s k args st=some (v,st')):BO P base w0 I μ st w ((Dk k).map (s+·)) (execOp ρ o) v st':=by
 cases hb:DD k with
 |true=>
  obtain⟨id,h1,h2⟩:=OJ (st:=st) (s:=s) (args:=args) hb
  rw[h2] at h
  obtain⟨i1,i2,i3⟩:=hid id h1
  obtain⟨ob,g1,H1,hf,hc,hl⟩:=Te H h i1 i2
  have:=Vj (o:=o) H1 hk ha g1 h1 hf i1 (by rw[hc]; exact i2)
  rw[h1]
  exact BO.born hc hl this
 |false=>
 obtain⟨dst,op,type,pos,after,guard⟩:=o
 simp only at hk
 cases op <;> simp only[Ms,reduceCtorEq] at hk
 case move x=>
  split at hk <;> cases hk
  obtain⟨x,rfl,h⟩:=Az h
  obtain⟨rx,e1,hx⟩:=ha.one
  cases e1; cases h
  exact BO.pure H hx
 case assign x=>
  split at hk <;> cases hk
  obtain⟨x,rfl,h⟩:=Az h
  obtain⟨rx,e1,hx⟩:=ha.one
  cases e1; cases h
  exact BO.pure H hx
 case pick c a b=>
  split at hk <;> cases hk
  obtain⟨x,y,z,rfl,h⟩:=Ff h
  obtain⟨rx,ry,rz,e1,hx,hy,hz⟩:=ha.three
  cases e1
  obtain⟨e1,t,e2,e3⟩:=dE hx hy hz h
  subst e1
  refine⟨.value (if t then ρ a else ρ b),_,w,μ,?_,.inl rfl,H,e3,fun _ _ h=>h,fun _ _=>rfl,rfl,rfl⟩
  simp[execOp,e2,asBool,Result.andThen]
 case alloc=>split at hk <;> first|(cases hk; done)|(simp[DD] at hb)
 case box=>split at hk <;> first|(cases hk; done)|(simp[DD] at hb)
 case buildSlice=>split at hk <;> first|(cases hk; done)|(simp[DD] at hb)
 case makeMap=>split at hk <;> first|(cases hk; done)|(simp[DD] at hb)
 case makeSlice=>split at hk <;> first|(cases hk; done)|(simp[DD] at hb)
 case build t parts=>
  split at hk
  ·rename_i zero places
   obtain⟨h1,h2⟩:=BQ hk
   subst h2
   simp only[step,Df] at h
   split at h
   ·rename_i u hu
    cases h
    obtain⟨cs,e1,e2⟩:=Option.map_eq_some_iff.1 hu
    subst e2
    have hv:Ah I μ args (parts.toList.map fun p=>ρ p.2):=by simpa [List.map_map,Function.comp_def] using ha
    have:=cK (P:=P) (w:=w) h1 hv e1
    exact BO.stay H ⟨rfl,by simpa using this⟩
   ·cases h
  ·cases hk
 case load t a=>
  split at hk
  ·obtain⟨h1,h2⟩:=BQ hk
   subst h2
   obtain⟨x,rfl,h⟩:=Az h
   obtain⟨rx,e1,hx⟩:=ha.one
   cases e1
   have h:Df st (GU st.h _ x)=some (v,st'):=h
   unfold Df at h
   split at h
   ·rename_i u hu
    cases h
    exact BO.stay H ⟨rfl,Xx H h1 hx hu⟩
   ·cases h
  ·cases hk
 case store t a x=>
  split at hk
  ·obtain⟨h1,h2⟩:=BQ hk
   subst h2
   obtain⟨x,y,rfl,h⟩:=BM h
   obtain⟨rx,ry,e1,hx,hy⟩:=ha.two
   cases e1
   obtain⟨e1,e2⟩:=aO H (by simpa using h1) hx hy h
   exact BO.dw H e1 e2
  ·cases hk
 case nilCheck x=>
  split at hk <;> cases hk
  obtain⟨y,rfl,h⟩:=Az h
  obtain⟨rx,e1,hx⟩:=ha.one
  cases e1
  obtain⟨e1,e2,e3⟩:=Ue hx h
  subst e1 e2
  refine⟨.value (ρ x),_,w,μ,?_,.inl rfl,H,hx,fun _ _ h=>h,fun _ _=>rfl,rfl,rfl⟩
  rcases e3 with⟨a,ha'⟩|⟨f,a,b,ha'⟩ <;> simp[execOp,ha']
 case binOp op t x y yt=>
  obtain⟨h1,h2⟩:=BQ hk
  subst h2
  have:∃a b,args=[a,b]:=by
   have hl:=ha.length
   simp at hl
   match args,hl with
   |[a,b],_=>exact⟨a,b,rfl⟩
  obtain⟨a,b,rfl⟩:=this
  obtain⟨rx,ry,e1,hx,hy⟩:=ha.two
  cases e1
  exact gK H h1 hx hy _ h
 case unOp op t x=>
  split at hk
  ·obtain⟨h1,h2⟩:=BQ hk
   subst h2
   simp only[decide_eq_true_eq] at h1
   subst h1
   obtain⟨y,rfl,h⟩:=Az h
   obtain⟨rx,e1,hx⟩:=ha.one
   cases e1
   have h:Df st (un op y)=some (v,st'):=h
   unfold Df at h
   split at h
   ·rename_i u hu
    cases h
    exact BO.stay H ⟨rfl,lU hx hu⟩
   ·cases h
  ·cases hk
 case convert src dst' x=>
  obtain⟨h1,h2⟩:=BQ hk
  subst h2
  have:∃a,args=[a]:=by
   have hl:=ha.length
   simp at hl
   match args,hl with
   |[a],_=>exact⟨a,rfl⟩
  obtain⟨a,rfl⟩:=this
  obtain⟨rx,e1,hx⟩:=ha.one
  cases e1
  exact bg H h1 hx hid h
 case makeInterface t x=>
  split at hk
  ·obtain⟨h1,h2⟩:=BQ hk
   subst h2
   rw[Bool.and_eq_true] at h1
   have:=Nat.eq_of_beq_eq_true h1.1
   subst this
   obtain⟨d,d1,d2⟩:=Ud h1.2
   obtain⟨y,rfl,h⟩:=Az h
   obtain⟨rx,e1,hx⟩:=ha.one
   cases e1; cases h
   exact BO.stay H ⟨rfl,Wy d1 d2 hx⟩
  ·cases hk
 case makeFunc f first captured=>
  split at hk
  ·obtain⟨h1,h2⟩:=BQ hk
   subst h2
   simp only[Bool.and_eq_true,decide_eq_true_eq] at h1
   have:=Nat.eq_of_beq_eq_true h1.2
   obtain⟨e1,_⟩:=h1
   subst e1 this
   simp only[step] at h
   cases h
   rw[List.map_append] at ha
   have hm:=eQ (P:=P) (w:=w) (f:=f) ha
   have e4:(first.toList.map ρ).toArray=first.map ρ:=by apply Array.ext'; simp
   have e5:(captured.toList.map ρ).toArray=captured.map ρ:=by apply Array.ext'; simp
   rw[e4,e5] at hm
   refine BO.stay H ⟨rfl,_,hm.1,?_⟩
   simpa using hm.2
  ·cases hk
 case slice t x l hh m=>
  obtain⟨h1,h2⟩:=BQ hk
  subst h2
  cases ha with
  |cons y rx args' rl hx ha=>
  exact Yk H h1 hx ha _ h
 case fieldAddr t x f=>
  split at hk
  ·obtain⟨h1,h2⟩:=BQ hk
   subst h2
   obtain⟨y,rfl,h⟩:=Az h
   obtain⟨rx,e1,hx⟩:=ha.one
   cases e1
   exact BO.stay H (TT h1 hx h)
  ·cases hk
 case field t x f=>
  split at hk
  ·obtain⟨h1,h2⟩:=BQ hk
   subst h2
   obtain⟨y,rfl,h⟩:=Az h
   obtain⟨rx,e1,hx⟩:=ha.one
   cases e1
   exact BO.stay H (bX h1 hx h)
  ·cases hk
 case indexAddr t x i=>
  obtain⟨h1,h2⟩:=BQ hk
  subst h2
  cases k <;> simp only[FI,reduceCtorEq,Bool.false_eq_true] at h1
  ·obtain⟨x,y,rfl,h⟩:=BM h
   obtain⟨rx,ry,e1,hx,hy⟩:=ha.two
   cases e1
   exact BO.stay H (TJ H h1 hx hy h)
  ·obtain⟨x,y,rfl,h⟩:=BM h
   obtain⟨rx,ry,e1,hx,hy⟩:=ha.two
   cases e1
   exact BO.stay H (UE h1 hx hy h)
 case index t x i=>
  split at hk
  ·obtain⟨h1,h2⟩:=BQ hk
   subst h2
   obtain⟨x,y,rfl,h⟩:=BM h
   obtain⟨rx,ry,e1,hx,hy⟩:=ha.two
   cases e1
   exact BO.stay H (Uz (LX h1) hx hy h)
  ·cases hk
 case lookup t x i ok=>
  split at hk
  ·obtain⟨h1,h2⟩:=BQ hk
   subst h2
   simp only[Bool.and_eq_true,beq_iff_eq] at h1
   obtain⟨h1,h3⟩:=h1
   subst h3
   obtain⟨x,y,rfl,h⟩:=BM h
   obtain⟨rx,ry,e1,hx,hy⟩:=ha.two
   cases e1
   exact BO.stay H (ZK H h1 hx hy h)
  ·cases hk
 case mapUpdate t m i x=>
  split at hk
  ·obtain⟨h1,h2⟩:=BQ hk
   subst h2
   obtain⟨x,y,z,rfl,h⟩:=Ff h
   obtain⟨rx,ry,rz,e1,hx,hy,hz⟩:=ha.three
   cases e1
   obtain⟨e1,e2⟩:=NS H h1 hx hy hz h
   exact BO.dw H e1 e2
  ·cases hk
 case insert t m i x=>
  split at hk
  ·obtain⟨h1,h2⟩:=BQ hk
   subst h2
   obtain⟨x,y,z,rfl,h⟩:=Ff h
   obtain⟨rx,ry,rz,e1,hx,hy,hz⟩:=ha.three
   cases e1
   obtain⟨e1,e2⟩:=NS H h1 hx hy hz h
   exact BO.dw H e1 e2
  ·cases hk
 case mapEntry t m i=>
  split at hk
  ·obtain⟨h1,h2⟩:=BQ hk
   subst h2
   obtain⟨x,y,rfl,h⟩:=BM h
   obtain⟨rx,ry,e1,hx,hy⟩:=ha.two
   cases e1
   exact BO.Vz (Uh H h1 hx hy h)
  ·cases hk
 case entryStore t m i x=>
  split at hk <;> cases hk
  obtain⟨x,y,z,rfl,h⟩:=Ff h
  obtain⟨rx,ry,rz,e1,hx,hy,hz⟩:=ha.three
  cases e1
  obtain⟨e1,e2⟩:=Rh (t:=t) H hx hy hz h
  exact BO.dw H e1 e2
 case range t x=>
  split at hk
  ·rename_i id
   obtain⟨h1,h2⟩:=BQ hk
   subst h2
   obtain⟨i1,i2,i3⟩:=hid id rfl
   obtain⟨y,rfl,h⟩:=Az h
   obtain⟨rx,e1,hx⟩:=ha.one
   cases e1
   exact BO.Vz (UT H h1 hx h i1 i2)
  ·cases hk
 case next it isStr=>
  split at hk
  ·simp only[step] at h; cases h
  ·cases hk
 case entry it=>
  split at hk <;> cases hk
  obtain⟨y,rfl,h⟩:=Az h
  obtain⟨rx,e1,hx⟩:=ha.one
  cases e1
  exact BO.stay H (bZ H hx h)
 case extract t i=>
  split at hk
  ·obtain⟨h1,h2⟩:=BQ hk
   subst h2
   have:=Nat.eq_of_beq_eq_true h1
   subst this
   obtain⟨y,rfl,h⟩:=Az h
   obtain⟨rx,e1,hx⟩:=ha.one
   cases e1
   exact BO.stay H (XP hx h)
  ·cases hk
 case call c=>exact cB H hX hk hρ ha hid h dst type pos after guard
end
end Go.Am
end
section
namespace Go.Am
open Go Go.RowKit
def AV.top:AV->Option Nat
 |.AO o _|.AU o _ _ _|.Cq o=>some o
 |_=>none
theorem aJ {I:Cv}{μ:Mu}{v:AV}{rv:Value}(h:Ae I μ v rv){o:Nat}(ht:v.top=some o):∃pl,μ o=some pl:=by
 cases h <;> simp[AV.top] at ht <;> subst ht <;> exact⟨_,by assumption⟩
def Kept (st st':St)(S:Nat->Prop):Prop:=∀p,¬S p->AA st'.h p=AA st.h p
theorem Kept.refl (st:St)(S:Nat->Prop):Kept st st S:=fun _ _=>rfl
theorem Kept.trans {a b c:St}{S:Nat->Prop}(h:Kept a b S)(k:Kept b c S):Kept a c S:=fun p hp=>(k p hp).trans (h p hp)
theorem Kept.mono {a b:St}{S T:Nat->Prop}(h:Kept a b S)(hs:∀p,S p->T p):Kept a b T:=fun p hp=>h p fun q=>hp (hs p q)
theorem FD {st st':St}{o off:Nat}{vs:List AV}(h:BI st o off vs=some st'):Kept st st' (·=o):=by
 unfold BI at h
 rw[cond_eq_ite] at h
 split at h
 ·cases h
 split at h
 ·rename_i hf
  rw[cond_eq_ite] at h
  split at h
  ·cases h
   intro p hp
   simp only at hp
   show AA (Aa st.h o _) p=_
   rw[Fa _ _ _ (by rw[hf]; rfl),if_neg (Ne.symm hp)]
  ·cases h
 ·cases h
theorem Jd {st st':St}{o:Nat}{ob:Al}(h:newObj o ob st=some st'):Kept st st' (·=o):=by
 unfold newObj at h
 split at h
 ·rename_i h' hp
  cases h
  intro p hne
  simp only at hne
  show AA h' p=_
  rw[GV hp,if_neg (Ne.symm hne)]
 ·cases h
theorem KO {st:St}{o:Nat}{x y:Al}(hf:AA st.h o=some x):Kept st { st with h:=Aa st.h o y } (·=o):=by
 intro p hp
 simp only at hp
 show AA (Aa st.h o _) p=_
 rw[Fa _ _ _ (by rw[hf]; rfl),if_neg (Ne.symm hp)]
theorem SH {st:St}{o:Nat}:Kept st { st with h:=GL st.h o } (·=o):=by
 intro p hp
 simp only at hp
 show AA (GL st.h o) p=_
 rw[Dz,if_neg (Ne.symm hp)]
theorem MC {st st':St}{o ty sz bytes len n:Nat}{cs:List AV}{v:AV}(h:grow o ty sz bytes len n cs st=some (v,st')):Kept st st' (·=o):=by
 unfold grow at h
 rw[cond_eq_ite] at h
 split at h
 ·split at h
  ·rename_i hn; cases h; exact Jd hn
  ·cases h
 ·cases h
theorem Ka {st st':St}{o ty sz bytes n:Nat}{x v:AV}{new:List AV}(h:BV o ty sz bytes x n new st=some (v,st')):Kept st st' (fun p=>p=o∨x.top=some p):=by
 unfold BV at h
 simp only[cond_eq_ite] at h
 split at h
 ·cases h
 split at h
 ·split at h
  ·cases h; exact Kept.refl _ _
  ·exact (MC h).mono fun p hp=>.inl hp
 ·split at h
  ·cases h; exact Kept.refl _ _
  ·split at h
   ·exact (MC h).mono fun p hp=>.inl hp
   ·cases h
 ·rename_i oo off len cap
  split at h
  ·cases h; exact Kept.refl _ _
  ·unfold Dr at h
   split at h
   ·simp only[cond_eq_ite] at h
    split at h
    ·split at h
     ·split at h
      ·split at h
       ·rename_i hw; cases h; exact (FD hw).mono fun p hp=>.inr (by rw[hp]; rfl)
       ·cases h
      ·exact (MC h).mono fun p hp=>.inl hp
     ·split at h
      ·split at h
       ·rename_i hw; cases h; exact (FD hw).mono fun p hp=>.inr (by rw[hp]; rfl)
       ·cases h
      ·split at h
       ·refine Kept.trans (b:={ st with h:=GL st.h oo }) ?_ ((MC h).mono fun p hp=>.inl hp)
        exact SH.mono fun p hp=>.inr (by rw[hp]; rfl)
       ·cases h
    ·cases h
   ·cases h
 ·cases h
def qH (s:Nat)(k:AK)(args:List AV)(p:Nat):Prop:=(Dk k).map (s+·)=some p∨∃x∈args,x.top=some p
theorem Sd {st st':St}{o:Nat}{r:B}{v:AV}(h:MJ o r st=some (v,st')):Kept st st' (·=o):=by
 unfold MJ CO at h
 split at h
 ·split at h
  ·rename_i hn; cases h; exact Jd hn
  ·cases h
 ·cases h
def Dy:AK->Bool
 |.move|.pick|.build ..|.load _|.nilCheck|.bin _|.eq ..|.PV ..|.un _|.Ab _|.IJ|.Ir|.BZ _|.Im ..|.BH ..|.slice ..|.IM ..|.fieldAddr _|.field ..|.indexAddr _
 |.Cy ..|.Ag|.lookup ..|.entry|.extract _|.len _|.cap|.min|.max|.ND ..|.LJ|.ext _=>true
 |_=>false
theorem Mf {s:Nat}{k:AK}{args:List AV}{st st':St}{v:AV}(hq:Dy k=true)(h:step s k args st=some (v,st')):st'=st:=by
 have giv:∀{x:Option AV},Df st x=some (v,st')->st'=st:=fun {x} h=>by
  unfold Df at h; split at h
  ·cases h; rfl
  ·cases h
 cases k <;> simp[Dy] at hq <;> simp only[step] at h
 case move=>obtain⟨x,_,g⟩:=Az h; cases g; rfl
 case pick=>obtain⟨x,y,z,_,g⟩:=Ff h; unfold LV at g; split at g <;> cases g; rfl
 case build=>exact giv h
 case load=>obtain⟨x,_,g⟩:=Az h; exact giv g
 case nilCheck=>obtain⟨x,_,g⟩:=Az h; unfold CQ at g; split at g <;> cases g <;> rfl
 case bin=>obtain⟨x,y,_,g⟩:=BM h; exact giv g
 case eq=>obtain⟨x,y,_,g⟩:=BM h; exact giv g
 case PV=>
  obtain⟨x,y,_,g⟩:=BM h
  unfold QN at g
  split at g
  ·split at g <;> cases g; rfl
  ·split at g
   ·cases g; rfl
   ·rw[cond_eq_ite] at g
    split at g
    ·split at g
     ·split at g <;> cases g; rfl
     ·cases g
    ·cases g; rfl
   ·cases g
  ·cases g
 case un=>obtain⟨x,_,g⟩:=Az h; exact giv g
 case Ab=>obtain⟨x,_,g⟩:=Az h; unfold Hq at g; split at g <;> cases g; rfl
 case IJ=>
  obtain⟨x,_,g⟩:=Az h
  unfold Gc at g
  split at g
  ·cases g; rfl
  ·split at g <;> cases g; rfl
  ·cases g
 case Ir=>
  obtain⟨x,_,g⟩:=Az h
  unfold IE at g
  split at g
  ·cases g
  ·split at g
   ·split at g
    ·exact giv g
    ·cases g
   ·cases g
 case BZ=>obtain⟨x,_,g⟩:=Az h; cases g; rfl
 case Im=>cases h; rfl
 case BH=>
  unfold CJ at h
  split at h
  ·split at h
   ·split at h
    ·rw[cond_eq_ite] at h; split at h <;> cases h; rfl
    ·cases h
   ·cases h
  ·cases h
 case slice=>
  unfold Bz at h
  split at h
  ·split at h
   ·split at h
    ·split at h
     ·exact giv h
     ·cases h
    ·cases h
   ·cases h
  ·cases h
 case IM=>
  unfold Hm at h
  split at h
  ·split at h
   ·split at h
    ·split at h
     ·rw[cond_eq_ite] at h; split at h <;> cases h; rfl
     ·cases h
    ·cases h
   ·cases h
  ·cases h
 case fieldAddr=>obtain⟨x,_,g⟩:=Az h; unfold DR at g; split at g <;> cases g <;> rfl
 case field=>
  obtain⟨x,_,g⟩:=Az h
  unfold Lt at g
  split at g
  ·split at g
   ·rw[cond_eq_ite] at g; split at g <;> cases g; rfl
   ·exact giv g
  ·cases g
 case indexAddr=>
  obtain⟨x,y,_,g⟩:=BM h
  unfold Ad at g
  split at g
  ·split at g
   ·rw[cond_eq_ite] at g
    split at g
    ·split at g <;> cases g; rfl
    ·cases g
   ·split at g
    ·rw[cond_eq_ite] at g; split at g <;> cases g; rfl
    ·cases g
   ·cases g
  ·cases g
 case Cy=>
  obtain⟨x,y,_,g⟩:=BM h
  unfold Ho at g
  split at g
  ·rw[cond_eq_ite] at g
   split at g
   ·split at g <;> cases g <;> rfl
   ·cases g
  ·cases g
 case Ag=>
  obtain⟨x,y,_,g⟩:=BM h
  unfold CR at g
  split at g
  ·split at g
   ·split at g <;> cases g; rfl
   ·cases g
  ·cases g
 case lookup=>
  obtain⟨x,y,_,g⟩:=BM h
  have key:∀{kk zero ok ks vs k},Ie kk zero ok ks vs k st=some (v,st')->st'=st:=by
   intro kk zero ok ks vs k q
   unfold Ie Jj at q
   rw[cond_eq_ite] at q
   split at q
   ·split at q
    ·cases q; rfl
    ·split at q <;> cases q; rfl
    ·cases q
   ·cases q
  unfold Gq at g
  split at g
  ·exact key g
  ·split at g
   ·exact key g
   ·cases g
  ·exact key g
  ·cases g
 case entry=>
  obtain⟨x,_,g⟩:=Az h
  unfold Lu at g
  split at g
  ·split at g
   ·split at g
    ·rw[cond_eq_ite] at g
     split at g
     ·split at g
      ·split at g
       ·split at g <;> cases g; rfl
       ·cases g
      ·cases g
     ·cases g
    ·cases g
   ·cases g
  ·cases g
 case extract=>obtain⟨x,_,g⟩:=Az h; unfold Gb at g; split at g; exact giv g; cases g
 case len=>
  obtain⟨x,_,g⟩:=Az h
  unfold Be at g
  split at g <;> cases g; rfl
 case cap=>obtain⟨x,_,g⟩:=Az h; unfold MO at g; split at g <;> cases g <;> rfl
 case min=>unfold Ou at h; split at h; exact giv h; cases h
 case max=>unfold Ov at h; split at h; exact giv h; cases h
 case ND=>
  obtain⟨x,_,g⟩:=Az h
  unfold Jc at g
  split at g
  ·cases g; rfl
  ·split at g
   ·rw[cond_eq_ite] at g; split at g <;> cases g; rfl
   ·cases g
  ·cases g
 case LJ=>
  obtain⟨x,_,g⟩:=Az h
  unfold GJ at g
  split at g
  ·cases g; rfl
  ·rw[cond_eq_ite] at g; split at g <;> cases g; rfl
  ·cases g
 case ext e=>
  cases e
  ·obtain⟨x,_,g⟩:=Az h; cases g; rfl
  ·obtain⟨x,y,_,g⟩:=BM h
   unfold Dc at g
   split at g
   ·split at g <;> cases g; rfl
   ·cases g
  ·obtain⟨x,y,_,g⟩:=BM h
   unfold JA at g
   split at g
   ·split at g <;> cases g; rfl
   ·cases g
theorem Ye {s:Nat}{k:AK}{args:List AV}{st st':St}{v:AV}(h:step s k args st=some (v,st')):Kept st st' (qH s k args):=by
 cases hq:Dy k with
 |true=>rw[Mf hq h]; exact Kept.refl _ _
 |false=>
 cases hb:DD k with
 |true=>
  obtain⟨id,h1,h2⟩:=OJ (st:=st) (s:=s) (args:=args) hb
  rw[h2] at h
  exact (Sd h).mono fun p hp=>.inl (by rw[h1,hp]; rfl)
 |false=>
 cases k <;> simp[Dy] at hq <;> simp[DD] at hb <;> simp only[step] at h
 case fail=>cases h
 case store=>
  obtain⟨x,y,e,g⟩:=BM h
  subst e
  unfold BJ at g
  split at g
  ·rename_i o off
   rw[cond_eq_ite] at g
   split at g
   ·cases g
   ·unfold CO at g
    split at g
    ·rename_i hw; cases g; exact (FD hw).mono fun p hp=>.inr ⟨_,List.mem_cons_self ..,by rw[hp]; rfl⟩
    ·cases g
  ·cases g
 case mapUpdate=>
  obtain⟨x,y,z,e,g⟩:=Ff h
  subst e
  unfold Du at g
  split at g
  ·rw[cond_eq_ite] at g
   split at g
   ·cases g
   ·split at g
    ·rename_i hf
     split at g
     ·cases g; exact (KO hf).mono fun p hp=>.inr ⟨_,List.mem_cons_self ..,by rw[hp]; rfl⟩
     ·cases g; exact (KO hf).mono fun p hp=>.inr ⟨_,List.mem_cons_self ..,by rw[hp]; rfl⟩
     ·cases g
    ·cases g
  ·cases g
 case mapEntry=>
  obtain⟨x,y,e,g⟩:=BM h
  subst e
  unfold JP at g
  split at g
  ·rw[cond_eq_ite] at g
   split at g
   ·cases g
   ·split at g
    ·rename_i hf
     split at g
     ·split at g
      ·cases g; exact Kept.refl _ _
      ·cases g
     ·cases g; exact (KO hf).mono fun p hp=>.inr ⟨_,List.mem_cons_self ..,by rw[hp]; rfl⟩
     ·cases g
    ·cases g
  ·cases g
 case entryStore=>
  obtain⟨x,y,z,e,g⟩:=Ff h
  subst e
  unfold Gr at g
  split at g
  ·split at g
   ·rw[cond_eq_ite] at g
    split at g
    ·cases g
    ·split at g
     ·rename_i hf
      split at g
      ·cases g; exact (KO hf).mono fun p hp=>.inr ⟨_,List.mem_cons_self ..,by rw[hp]; rfl⟩
      ·cases g
     ·cases g
   ·cases g
  ·cases g
 case rangeMap=>
  obtain⟨x,e,g⟩:=Az h
  subst e
  unfold JO CO at g
  split at g
  ·split at g
   ·rename_i hn; cases g; exact (Jd hn).mono fun p hp=>.inl (by rw[hp]; rfl)
   ·cases g
  ·split at g
   ·split at g
    ·rename_i hn; cases g; exact (Jd hn).mono fun p hp=>.inl (by rw[hp]; rfl)
    ·cases g
   ·cases g
  ·cases g
 case next=>cases h
 case append=>
  obtain⟨x,y,e,g⟩:=BM h
  subst e
  unfold Bq at g
  split at g
  ·cases g
  ·split at g
   ·split at g
    ·refine (Ka g).mono fun p hp=>?_
     rcases hp with hp|hp
     ·exact .inl (by rw[hp]; rfl)
     ·exact .inr ⟨_,List.mem_cons_self ..,hp⟩
    ·cases g
   ·cases g
 case JH=>
  obtain⟨x,y,e,g⟩:=BM h
  subst e
  unfold Gd at g
  split at g
  ·refine (Ka g).mono fun p hp=>?_
   rcases hp with hp|hp
   ·exact .inl (by rw[hp]; rfl)
   ·exact .inr ⟨_,List.mem_cons_self ..,hp⟩
  ·cases g
 case copy=>
  obtain⟨x,y,e,g⟩:=BM h
  subst e
  unfold Kn CO at g
  split at g
  ·cases g
  ·split at g
   ·split at g
    ·cases g; exact Kept.refl _ _
    ·split at g
     ·rw[cond_eq_ite] at g
      split at g
      ·cases g; exact Kept.refl _ _
      ·split at g
       ·rw[cond_eq_ite] at g
        split at g
        ·split at g
         ·rename_i hw; cases g; exact (FD hw).mono fun p hp=>.inr ⟨_,List.mem_cons_self ..,by rw[hp]; rfl⟩
         ·cases g
        ·cases g
       ·cases g
     ·cases g
    ·cases g
   ·cases g
 case clear=>
  obtain⟨x,e,g⟩:=Az h
  subst e
  unfold Ko CO at g
  split at g
  ·cases g; exact Kept.refl _ _
  ·rw[cond_eq_ite] at g
   split at g
   ·cases g; exact Kept.refl _ _
   ·split at g
    ·rw[cond_eq_ite] at g
     split at g
     ·split at g
      ·rename_i hw; cases g; exact (FD hw).mono fun p hp=>.inr ⟨_,List.mem_cons_self ..,by rw[hp]; rfl⟩
      ·cases g
     ·cases g
    ·cases g
  ·cases g
 case JE=>
  obtain⟨x,y,e,g⟩:=BM h
  subst e
  unfold GR at g
  split at g
  ·rw[cond_eq_ite] at g
   split at g
   ·split at g <;> cases g <;> exact Kept.refl _ _
   ·split at g
    ·rw[cond_eq_ite] at g
     split at g
     ·cases g
     ·split at g
      ·rw[cond_eq_ite] at g
       split at g
       ·split at g
        ·cases g; exact SH.mono fun p hp=>.inr ⟨_,List.mem_cons_self ..,by rw[hp]; rfl⟩
        ·cases g
       ·cases g
      ·cases g
    ·cases g
  ·cases g
 case call=>cases h
 case Bi=>cases h
 case invoke=>cases h
end Go.Am
end
section
namespace Go.Am
open Go Go.RowKit
variable {P:Program}
namespace M
variable {α β:Type}
theorem all_bind {m:M α}{f:α->M β}{Q:β->Prop}:(m.bind f).all Q↔m.all fun a=>(f a).all Q:=by
 induction m with
 |ret a=>exact Iff.rfl
 |fail=>exact Iff.rfl
 |ask n k ih=>exact⟨fun h i hi=>(ih i).1 (h i hi),fun h i hi=>(ih i).2 (h i hi)⟩
theorem Ll {m:M α}{Q R:α->Prop}(h:m.all Q)(hq:∀a,Q a->R a):m.all R:=by
 induction m with
 |ret a=>exact hq a h
 |fail=>exact h
 |ask n k ih=>exact fun i hi=>ih i (h i hi)
theorem MH {x:Option α}{Q:α->Prop}(h:(M.Bt x).all Q):∃a,x=some a/\Q a:=by
 cases x with
 |none=>exact h.elim
 |some a=>exact⟨a,rfl,h⟩
end M
structure Nx (I:Cv)(μ:Mu)(st:St)(S:Nat->Prop)(J:Cv)(ν:Mu)(st':St):Prop where
 JZ:I.le J
 le:μ.le ν
 same:∀p,p<st.c->¬S p->ν p=μ p
 c:st.c<=st'.c
 lo:st'.lo=st.lo
 kept:∀p,p<st.c->¬S p->μ p=none->AA st'.h p=AA st.h p
theorem Nx.refl (I:Cv)(μ:Mu)(st:St)(S:Nat->Prop):Nx I μ st S I μ st:=
 ⟨Cv.le_refl I,fun _ _ h=>h,fun _ _ _=>rfl,Nat.le_refl _,rfl,fun _ _ _ _=>rfl⟩
theorem Nx.trans {I J K:Cv}{μ ν ξ:Mu}{st st' st2:St}{S T:Nat->Prop}(h:Nx I μ st S J ν st')(k:Nx J ν st' T K ξ st2)(hT:∀p,p<st.c->T p->S p):Nx I μ st S K ξ st2:=
 ⟨Cv.le_trans h.JZ k.JZ,fun p x hx=>k.le p x (h.le p x hx),
  fun p hp hs=>(k.same p (Nat.lt_of_lt_of_le hp h.c) fun t=>hs (hT p hp t)).trans (h.same p hp hs),
  Nat.le_trans h.c k.c,k.lo.trans h.lo,
  fun p hp hs hn=>(k.kept p (Nat.lt_of_lt_of_le hp h.c) (fun t=>hs (hT p hp t)) ((h.same p hp hs).trans hn)).trans (h.kept p hp hs hn)⟩
theorem Nx.mono {I J:Cv}{μ ν:Mu}{st st':St}{S T:Nat->Prop}(h:Nx I μ st S J ν st')(hT:∀p,p<st.c->S p->T p):Nx I μ st T J ν st':=
 ⟨h.JZ,h.le,fun p hp hs=>h.same p hp fun t=>hs (hT p hp t),h.c,h.lo,fun p hp hs=>h.kept p hp fun t=>hs (hT p hp t)⟩
def DV (GT:Nat->Option AV)(I:Cv):Prop:=∀g u,GT g=some u->(u=.tuple []->∃m,I.cell g 0=some (.int .i64 m))/\(u.isTuple=false->∀μ,Ae I μ u (.pointer (some ⟨g,0,none⟩)))/\∀cs,u=.tuple cs->cs≠[]->∃ty fz rvs,I.map g=some (.cells rvs ty fz)/\∀μ,Ah I μ cs rvs.toList
def HV (P:Program)(GT:Nat->Option AV)(call:Nat->List AV->St->M (AV × St)):Prop:=
 ∀(f:Nat) (args:List AV) (st:St) (Q:AV × St->Prop),(call f args st).all Q->∀(base:Nat) (w0:Start) (I:Cv) (μ:Mu) (w:World) (rargs:List Value),Ay base w0 I μ st w->st.lo<=st.c->DV GT I->Ah I μ args rargs ->
  (∀W,(callFunc f rargs.toArray).run P W=.ok (.enter f rargs.toArray) W) /\
  Calls P f rargs.toArray w fun e w'=>∃rv v st' J ν,e=.returned rv/\Q (v,st')/\Ay base w0 J ν st' w'/\Ae J ν v rv/\Nx I μ st (fun _=>False) J ν st'
def Xn (P:Program)(E:Env):Prop:=
 ∀t name f,E.eU t name=some f->∀(v:Value) (w:World),(method (P.types.size+Made.depth) t v name).run P w=.ok (f,v) w
def Tt (P:Program)(o:Oper)(a:Act)(w:World)(R:Value->World->Prop):Prop:=
 ∀(K:Act->World->Prop) (Q:Exit->Act->World->Prop),(∀rv w',R rv w'->K (a.put o.dst rv) w')->o.wp P a w K Q
section
variable {base:Nat}{w0:Start}{I:Cv}{μ:Mu}{st:St}{w:World}
theorem Tt.iB {o:Oper}{a:Act}{v:AV}{st':St}{so:Option Nat}{S:Nat->Prop}(hs:∀p,so=some p->S p)(hkept:Kept st st' fun p=>S p∨∃pl,μ p=some pl)(h:BO P base w0 I μ st w so (execOp a.eval o) v st') :
 Tt P o a w fun rv w'=>∃ν,Ay base w0 I ν st' w'/\Ae I ν v rv/\Nx I μ st S I ν st':=by
 intro K Q hK
 obtain⟨n,rv,w',ν,h1,h2,h3⟩:=h
 have hR:∃ν,Ay base w0 I ν st' w'/\Ae I ν v rv/\Nx I μ st S I ν st':=by
  refine⟨ν,h3.rel,h3.val,Cv.le_refl I,h3.le,fun p _ hp=>h3.same p fun e=>hp (hs p e.symm),by rw[h3.c]; exact Nat.le_refl _,h3.lo,fun p _ hp hn=>hkept p fun e=>?_⟩
  rcases e with e|⟨pl,e⟩
  ·exact hp e
  ·rw[hn] at e; cases e
 have:=hK rv w' hR
 unfold Oper.wp
 rw[h1]
 rcases h2 with h2|⟨h2,h4⟩
 ·subst h2; exact this
 ·subst h2 h4; exact this
theorem jy {s:Nat}{k:AK}{args:List AV}{rargs:List Value}(ha:Ah I μ args rargs){p:Nat}(h:qH s k args p):(Dk k).map (s+·)=some p∨∃pl,μ p=some pl:=by
 rcases h with h|⟨x,hx,ht⟩
 ·exact .inl h
 ·obtain⟨i,hi⟩:=List.getElem?_of_mem hx
  obtain⟨rv,_,h2⟩:=ha.get i x hi
  exact .inr (aJ h2 ht)
theorem ZI {args:List AV}{Q:AV × St->Prop}(h:(Mi args st).all Q):(Mi args st).all fun r=>Q r/\Kept st r.2 fun p=>∃x∈args,x.top=some p:=by
 unfold Mi at h ⊢
 split at h
 ·rename_i i
  split at h
  ·rename_i hf; exact⟨h,Kept.refl _ _⟩
  ·rename_i o since seen stepped hf
   rw[cond_eq_ite] at h
   split at h
   ·exact h.elim
   ·rename_i hlo
    simp only[cond_eq_ite,hlo,if_false,Bool.false_eq_true]
    split at h
    ·rename_i ks vs bs clock hf2
     rw[cond_eq_ite] at h
     split at h
     ·exact h.elim
     ·rename_i hc
      simp only[hc,if_false]
      intro j hj
      have hj:=h j hj
      dsimp only at hj ⊢
      revert hj
      generalize (candidates bs since seen)[j]? =c
      intro hj
      unfold TD at hj ⊢
      split at hj
      ·exact⟨hj,Kept.refl _ _⟩
      ·split at hj
       ·split at hj
        ·exact⟨hj,(KO hf).mono fun p hp=>⟨_,List.mem_cons_self ..,by rw[hp]; rfl⟩⟩
        ·exact hj.elim
       ·exact hj.elim
      ·exact hj.elim
    ·exact h.elim
  ·exact h.elim
 ·exact h.elim
def kU (base:Nat)(w0:Start)(I:Cv)(μ:Mu)(st:St)(S:Nat->Prop)(Q:AV × St->Prop)(rv:Value)(w':World):Prop:=
 ∃v st' J ν,Q (v,st')/\Ay base w0 J ν st' w'/\Ae J ν v rv/\Nx I μ st S J ν st'
theorem gJ {o:Oper}{a:Act}{f:Nat}{rargs:List Value}{R:Value->World->Prop}(he:(execOp a.eval o).run P w=.ok (.enter f rargs.toArray) w)(hc:Calls P f rargs.toArray w fun e w'=>∃rv,e=.returned rv/\R rv w'):Tt P o a w R:=by
 intro K Q hK
 unfold Oper.wp
 rw[he,Oper.upon_enter]
 refine Calls.mono hc fun e w' h=>?_
 obtain⟨rv,h1,h2⟩:=h
 subst h1
 exact hK rv w' h2
theorem toArray_map (l:Array Operand)(ρ:Operand->Value):(l.toList.map ρ).toArray=l.map ρ:=by apply Array.ext'; simp
theorem kK {E:Env}{call:Nat->List AV->St->M (AV × St)}{GT:Nat->Option AV}(hcall:HV P GT call)(hG:DV GT I){X:Nat->Option Ext}(hX:Vx P X)(hM:Xn P E)(H:Ay base w0 I μ st w)(hlo:st.lo<=st.c){s:Nat}{k:AK}{o:Oper}{os:List Operand}(hk:Ms P X k o.op=some os){a:Act}{args:List AV}(ha:Ah I μ args (os.map a.eval))(hid:Xo s μ st k){Q:AV × St->Prop}(h:(GM E call s k args st).all Q) :
 Tt P o a w (kU base w0 I μ st (fun p=>(Dk k).map (s+·)=some p) Q):=by
 have plain:(M.Bt (step s k args st)).all Q->Tt P o a w (kU base w0 I μ st (fun p=>(Dk k).map (s+·)=some p) Q):=by
  intro h
  obtain⟨⟨v,st'⟩,h1,h2⟩:=M.MH h
  have hs:=UC H hX hk (fun f=>rfl) ha hid h1
  intro K Q' hK
  refine Tt.iB (S:=fun p=>(Dk k).map (s+·)=some p) (fun p e=>e) ((Ye h1).mono fun p hp=>jy ha hp) hs K Q' fun rv w' hr=>hK rv w' ?_
  obtain⟨ν,g1,g2,g3⟩:=hr
  exact⟨v,st',I,ν,h2,g1,g2,g3⟩
 have enter:∀{f:Nat} {l:List AV} {rl:List Value},Ah I μ l rl->(call f l st).all Q->(∀W,(callFunc f rl.toArray).run P W=.ok (.enter f rl.toArray) W->(execOp a.eval o).run P W=.ok (.enter f rl.toArray) W) ->
  Tt P o a w (kU base w0 I μ st (fun p=>(Dk k).map (s+·)=some p) Q):=by
  intro f l rl hl hq he
  obtain⟨h1,h2⟩:=hcall f l st Q hq base w0 I μ w rl H hlo hG hl
  refine gJ (he w (h1 w)) (Calls.mono h2 fun e w' hr=>?_)
  obtain⟨rv,v,st',J,ν,e1,e2,e3,e4,e5⟩:=hr
  exact⟨rv,e1,v,st',J,ν,e2,e3,e4,e5.mono fun _ _ h=>h.elim⟩
 cases k
 case next=>
  obtain⟨dst,op,type,pos,after,guard⟩:=o
  simp only at hk
  cases op <;> simp only[Ms,IB,Fx,Dq,FI,FL,reduceCtorEq] at hk
  case next it isString=>
   obtain⟨h1,h2⟩:=BQ hk
   subst h2
   have h1:isString=false:=by simpa using h1
   subst h1
   obtain⟨v,st',⟨q1,q3⟩,q2⟩:=eO (P:=P) (t:=type) H ha _ (ZI h)
   have hkept:Kept st st' fun p=>(none:Option Nat)=some p∨∃pl,μ p=some pl:=q3.mono fun p hp=>by
    obtain⟨x,hx,ht⟩:=hp
    obtain⟨i,hi⟩:=List.getElem?_of_mem hx
    obtain⟨rv,_,h2⟩:=ha.get i x hi
    exact .inr (aJ h2 ht)
   intro K Q' hK
   refine Tt.iB (S:=fun p=>(none:Option Nat)=some p) (so:=none) (fun p e=>e) hkept (BO.Vz q2) K Q' fun rv w' hr=>hK rv w' ?_
   obtain⟨ν,g1,g2,g3⟩:=hr
   exact⟨v,st',I,ν,q1,g1,g2,g3⟩
  case call c=>
   exfalso
   unfold Iu at hk
   split at hk
   ·have:=(BQ hk).1
    unfold FC at this
    split at this <;> simp at this
   ·simp at hk
   ·simp at hk
 case call f=>
  obtain⟨dst,op,type,pos,after,guard⟩:=o
  simp only at hk
  cases op <;> simp only[Ms,IB,Fx,Dq,FI,FL,reduceCtorEq] at hk
  case call c=>
   obtain⟨callee,cargs,ts⟩:=c
   unfold Iu at hk
   split at hk
   ·have:=(BQ hk).1
    unfold FC at this
    split at this <;> simp at this
   ·simp at hk
   ·rename_i g hg
    simp only at hg hk
    subst hg
    split at hk
    ·rename_i g
     obtain⟨h1,h2⟩:=BQ hk
     subst h2
     have:=Nat.eq_of_beq_eq_true h1
     subst this
     refine enter ha h fun W hW=>?_
     rw[SL (show a.eval (.func g)=.func (.func g) #[] #[] from rfl),← toArray_map]
     exact hW
    ·cases hk
 case Bi=>
  obtain⟨dst,op,type,pos,after,guard⟩:=o
  simp only at hk
  cases op <;> simp only[Ms,IB,Fx,Dq,FI,FL,reduceCtorEq] at hk
  case call c=>
   obtain⟨callee,cargs,ts⟩:=c
   unfold Iu at hk
   split at hk
   ·have:=(BQ hk).1
    unfold FC at this
    split at this <;> simp at this
   ·simp at hk
   ·rename_i g hg
    simp only at hg hk
    subst hg
    cases hk
    simp only[GM] at h
    unfold KX at h
    split at h
    ·rename_i f x y l
     rw[List.map_cons] at ha
     cases ha with
     |cons _ rf _ rl hf hl=>
     generalize hrf:a.eval g=rf at hf
     cases hf with
     |fn _ _ _ rx ry hx hy=>
     refine enter (hx.append (hl.append hy)) h fun W hW=>?_
     have e1:execOp a.eval ⟨dst,.call ⟨.value g,cargs,ts⟩,type,pos,after,guard⟩=(do let d ← Deferred.ofValue (a.eval g) (cargs.map a.eval); invoke d.target d.args):=rfl
     rw[e1,hrf]
     have e2:(rx++(cargs.toList.map a.eval++ry)).toArray=rx.toArray++cargs.map a.eval++ry.toArray:=by
      rw[← toArray_map]; simp
     rw[e2] at hW ⊢
     simp only[Deferred.ofValue,Sem.run_bind,Sem.run_pure,Result.andThen_ok,invoke]
     exact hW
    ·exact h.elim
 case invoke name=>
  obtain⟨dst,op,type,pos,after,guard⟩:=o
  simp only at hk
  cases op <;> simp only[Ms,IB,Fx,Dq,FI,FL,reduceCtorEq] at hk
  case call c=>
   obtain⟨callee,cargs,ts⟩:=c
   unfold Iu at hk
   split at hk
   ·have:=(BQ hk).1
    unfold FC at this
    split at this <;> simp at this
   ·rename_i r n hr
    simp only at hr hk
    subst hr
    obtain⟨h1,h2⟩:=BQ hk
    subst h2
    have h1:name=n:=by simpa using h1
    subst h1
    simp only[GM] at h
    unfold callMethod at h
    split at h
    ·rename_i t v l
     split at h
     ·rename_i f hf
      rw[List.map_cons] at ha
      cases ha with
      |cons _ rf _ rl hf' hl=>
      generalize hrf:a.eval r=rf at hf'
      cases hf' with
      |iface _ _ rv hv=>
      refine enter (.cons _ _ _ _ hv hl) h fun W hW=>?_
      have e1:execOp a.eval ⟨dst,.call ⟨.invoke r name,cargs,ts⟩,type,pos,after,guard⟩=invoke (.fn (.method name) #[]) (#[a.eval r]++cargs.map a.eval):=rfl
      rw[e1,hrf]
      have e2:(rv::cargs.toList.map a.eval).toArray=#[rv]++cargs.map a.eval:=by
       rw[← toArray_map]; simp
      rw[e2] at hW ⊢
      have hm:=hM t name f hf rv W
      have e3:(#[Value.iface t rv]++cargs.map a.eval)[0]? =some (.iface t rv):=by rw[Array.getElem?_append_left (by simp)]; rfl
      have e4:(#[Value.iface t rv]++cargs.map a.eval).extract 1 (#[Value.iface t rv]++cargs.map a.eval).size=cargs.map a.eval:=by
       generalize cargs.map a.eval=m
       obtain⟨m⟩:=m
       apply Array.ext'
       rw[Array.toList_extract,List.extract_eq_take_drop,Array.toList_append]
       simp[List.take_of_length_le]
      simp only[invoke,e3,e4,Go.callMethod,Sem.run_bind,run_program,Result.andThen_ok,hm,hW]
     ·exact h.elim
    ·exact h.elim
   ·simp at hk
 all_goals exact plain h
end
end Go.Am
end
section
namespace Go.Am
open Go Go.RowKit
variable {P:Program}
 mutual
theorem AV.beq_eq:∀{a b:AV},AV.beq a b=true->a=b
 |.bool a,.bool b,h=>by simp[AV.beq] at h; rw[h]
 |.int k a,.int j b,h=>by simp[AV.beq] at h; rw[h.1,h.2]
 |.str a,.str b,h=>by simp[AV.beq] at h; rw[h]
 |.Ba,.Ba,_=>rfl
 |.AO o a,.AO p b,h=>by simp[AV.beq] at h; rw[h.1,h.2]
 |.BN a,.BN b,h=>by simp only[AV.beq] at h; rw[AV.Iw h]
 |.AB,.AB,_=>rfl
 |.list t n a,.list u m b,h=>by simp only[AV.beq,Bool.and_eq_true,beq_iff_eq] at h; rw[h.1.1,h.1.2,AV.Iw h.2]
 |.AU o a l c,.AU p b m d,h=>by simp[AV.beq] at h; rw[h.1.1.1,h.1.1.2,h.1.2,h.2]
 |.De,.De,_=>rfl
 |.Cq o,.Cq p,h=>by simp[AV.beq] at h; rw[h]
 |.Gs a b,.Gs c d,h=>by simp only[AV.beq,Bool.and_eq_true] at h; rw[AV.Iw h.1,AV.Iw h.2]
 |.fn f a b,.fn g c d,h=>by simp only[AV.beq,Bool.and_eq_true,decide_eq_true_eq] at h; rw[h.1.1,AV.Iw h.1.2,AV.Iw h.2]
 |.Ih,.Ih,_=>rfl
 |.iface t v,.iface u w,h=>by simp only[AV.beq,Bool.and_eq_true,beq_iff_eq] at h; rw[h.1,AV.beq_eq h.2]
 |.Cs,.Cs,_=>rfl
 |.agg a,.agg b,h=>by simp only[AV.beq] at h; rw[AV.Iw h]
 |.tuple a,.tuple b,h=>by simp only[AV.beq] at h; rw[AV.Iw h]
theorem AV.Iw:∀{a b:List AV},AV.Ns a b=true->a=b
 |[],[],_=>rfl
 |a::x,b::y,h=>by simp only[AV.Ns,Bool.and_eq_true] at h; rw[AV.beq_eq h.1,AV.Iw h.2]
end
theorem TS.XN (v:AV):∀(n i j:Nat),i+1<2 ^ n->(TS.single v n i).get j=if i=j then v else .undef:=by
 intro n
 induction n with
 |zero=>intro i j h; omega
 |succ n ih=>
  intro i j h
  have hp:2 ^ (n+1)=2*2 ^ n:=by rw[Nat.pow_succ]; omega
  simp only[TS.single,beq_eq,cond_eq_ite,decide_eq_true_eq]
  by_cases h0:i=0
  ·subst h0
   simp only[if_true,TS.get,beq_eq,cond_eq_ite,decide_eq_true_eq]
   by_cases hj:j=0
   ·simp[hj]
   ·rw[if_neg hj,if_neg (Ne.symm hj)]
    split <;> simp[TS.get]
  ·simp only[h0,if_false]
   by_cases h1:i % 2=1
   ·simp only[h1,if_true,TS.get,beq_eq,cond_eq_ite,decide_eq_true_eq]
    by_cases hj:j=0
    ·subst hj; simp[h0]
    ·rw[if_neg hj]
     by_cases hj1:j % 2=1
     ·rw[if_pos hj1,ih _ _ (by omega)]
      by_cases hij:i=j
      ·subst hij; simp
      ·rw[if_neg hij,if_neg (by omega)]
     ·rw[if_neg hj1,if_neg (by omega)]
   ·simp only[h1,if_false,TS.get,beq_eq,cond_eq_ite,decide_eq_true_eq]
    by_cases hj:j=0
    ·subst hj; simp[h0]
    ·rw[if_neg hj]
     by_cases hj1:j % 2=1
     ·rw[if_pos hj1,if_neg (by omega)]
     ·rw[if_neg hj1,ih _ _ (by omega)]
      by_cases hij:i=j
      ·subst hij; simp
      ·rw[if_neg hij,if_neg (by omega)]
theorem TS.Pk (v:AV):∀(t:TS) (i j:Nat),i+1<2 ^ 16->(t.set i v).get j=if i=j then v else t.get j:=by
 intro t
 induction t with
 |nil=>intro i j h; simp only[TS.set]; rw[TS.XN v 16 i j h]; rfl
 |node x l r ihl ihr=>
  intro i j h
  simp only[TS.set,beq_eq,cond_eq_ite,decide_eq_true_eq]
  by_cases h0:i=0
  ·subst h0
   simp only[if_true,TS.get,beq_eq,cond_eq_ite,decide_eq_true_eq]
   by_cases hj:j=0
   ·simp[hj]
   ·rw[if_neg hj,if_neg (Ne.symm hj),if_neg hj]
  ·simp only[h0,if_false]
   by_cases h1:i % 2=1
   ·simp only[h1,if_true,TS.get,beq_eq,cond_eq_ite,decide_eq_true_eq]
    by_cases hj:j=0
    ·subst hj; simp[h0]
    ·rw[if_neg hj,if_neg hj]
     by_cases hj1:j % 2=1
     ·rw[if_pos hj1,if_pos hj1,ihl _ _ (by omega)]
      by_cases hij:i=j
      ·subst hij; simp
      ·rw[if_neg hij,if_neg (by omega)]
     ·rw[if_neg hj1,if_neg hj1,if_neg (by omega)]
   ·simp only[h1,if_false,TS.get,beq_eq,cond_eq_ite,decide_eq_true_eq]
    by_cases hj:j=0
    ·subst hj; simp[h0]
    ·rw[if_neg hj,if_neg hj]
     by_cases hj1:j % 2=1
     ·rw[if_pos hj1,if_pos hj1,if_neg (by omega)]
     ·rw[if_neg hj1,if_neg hj1,ihr _ _ (by omega)]
      by_cases hij:i=j
      ·subst hij; simp
      ·rw[if_neg hij,if_neg (by omega)]
structure Il (N:Nat)(I:Cv)(μ:Mu)(ts:TS)(a:Act):Prop where
 size:N<=a.tmps.size
 small:N<2 ^ 15
 get:∀t,t<N->Ae I μ (ts.get t) (a.eval (.tmp t))
section
variable {N:Nat}{I J:Cv}{μ ν:Mu}{ts:TS}{a:Act}
theorem Il.mono (h:Il N I μ ts a)(hI:I.le J)(hμ:μ.le ν):Il N J ν ts a:=⟨h.size,h.small,fun t ht=>(h.get t ht).mono hI hμ⟩
theorem Il.put (h:Il N I μ ts a){v:AV}{rv:Value}(hv:Ae I μ v rv){d:Option Nat}(hd:∀t,d=some t->t<N):Il N I μ (put ts d v) (a.put d rv):=by
 cases d with
 |none=>exact h
 |some d=>
  have hd:=hd d rfl
  have hsm:=h.small
  refine⟨by simp[Act.put,h.size],h.small,fun t ht=>?_⟩
  show Ae I μ ((ts.set d v).get t) _
  rw[TS.Pk _ _ _ _ (by omega)]
  by_cases e:d=t
  ·subst e
   simp only[if_true,Act.eval,Act.put]
   have:(a.tmps.setIfInBounds d rv).getD d undef=rv:=by
    have hsz:=h.size
    have Bc:d<a.tmps.size:=by omega
    simp[Array.getD,Bc]
   rw[this]; exact hv
  ·rw[if_neg e]
   have:=h.get t ht
   simp only[Act.eval,Act.put] at this ⊢
   have e2:(a.tmps.setIfInBounds d rv).getD t undef=a.tmps.getD t undef:=by
    simp[Array.getD_eq_getD_getElem?,Array.getElem?_setIfInBounds_ne e]
   rw[e2]; exact this
def Ta (N:Nat)(GT:Nat->Option AV)(x:Operand)(y:Gl):Bool:=
 match x with
 |.tmp t=>(match y with|.tmp u=>Nat.beq t u&&Nat.blt t N|_=>false)
 |.const c=>(match y with|.val v=>TZ v c|_=>false)
 |.global g=>(match y with|.val v=>(match GT g with|some u=>!u.isTuple&&AV.beq u v|none=>false)|_=>false)
 |.func f=>(match y with|.val (.fn (.func g) [] [])=>Nat.beq f g|_=>false)
theorem SV (hF:Il N I μ ts a){GT:Nat->Option AV}(hG:DV GT I){x:Operand}{y:Gl}(h:Ta N GT x y=true):Ae I μ (ev ts y) (a.eval x):=by
 unfold Ta at h
 split at h
 ·split at h
  ·rw[Bool.and_eq_true] at h
   have:=Nat.eq_of_beq_eq_true h.1
   subst this
   have hb:=h.2
   rw[blt_eq] at hb
   exact hF.get _ (by simpa using hb)
  ·cases h
 ·split at h
  ·exact Pn h
  ·cases h
 ·split at h
  ·split at h
   ·rename_i u hu
    rw[Bool.and_eq_true,Bool.not_eq_true'] at h
    have:=AV.beq_eq h.2
    subst this
    exact (hG _ _ hu).2.1 h.1 μ
   ·cases h
  ·cases h
 ·split at h
  ·have:=Nat.eq_of_beq_eq_true h
   subst this
   exact .fn _ _ _ [] [] .nil .nil
  ·cases h
def Po (N:Nat)(GT:Nat->Option AV):List Operand->List Gl->Bool
 |[],[]=>true
 |x::l,y::m=>Ta N GT x y&&Po N GT l m
 |_,_=>false
theorem Ku (hF:Il N I μ ts a){GT:Nat->Option AV}(hG:DV GT I):∀{l:List Operand} {m:List Gl},Po N GT l m=true->Ah I μ (Qo ts m) (l.map a.eval)
 |[],[],_=>.nil
 |x::l,y::m,h=>by
  simp only[Po,Bool.and_eq_true] at h
  exact .cons _ _ _ _ (SV hF hG h.1) (Ku hF hG h.2)
def Qy (N:Nat)(ops:Array Oper)(g h:Option (Nat × Bool)):Bool:=
 match g,h with
 |none,none=>true
 |some (j,b),some (t,c)=>(b==c)&&Nat.blt t N&&(match ops[j]? with|some o=>(match o.dst with|some u=>Nat.beq u t|none=>false)|none=>false)
 |_,_=>false
def fD (b:Bool)(rv:Value):Bool:=match rv with
 |.bool c=>c==b
 |_=>false
theorem ZP {v:AV}{rv:Value}{b:Bool}(h:Ae I μ v rv):isBool b v=fD b rv:=by
 cases h <;> rfl
theorem VF (hF:Il N I μ ts a){ops:Array Oper}{o:Oper}{g:Option (Nat × Bool)}(h:Qy N ops o.guard g=true):Region.wanted o (yielded ops a.tmps)=wanted g ts:=by
 unfold Qy at h
 unfold Region.wanted
 split at h
 ·rename_i h1; rw[h1]; rfl
 ·rename_i j b t c h1
  simp only[Bool.and_eq_true,beq_iff_eq] at h
  obtain⟨⟨hbc,htN⟩,h3⟩:=h
  subst hbc
  rw[h1]
  have htN:t<N:=by rw[blt_eq] at htN; simpa using htN
  split at h3
  ·rename_i o' ho
   split at h3
   ·rename_i u hu
    have:=Nat.eq_of_beq_eq_true h3
    subst this
    have hv:=hF.get u htN
    have hsz:=hF.size
    have e1:a.tmps[u]? =some (a.eval (.tmp u)):=by
     simp only[Act.eval,Array.getD_eq_getD_getElem?]
     rw[Array.getElem?_eq_getElem (by omega)]; rfl
    simp only[wanted,ZP hv]
    unfold yielded
    rw[ho]
    simp only[Option.bind_some,hu,e1]
    generalize a.eval (.tmp u)=rv
    cases rv <;> first|rfl|(rename_i c; cases c <;> cases b <;> rfl)
   ·cases h3
  ·cases h3
 ·cases h
def Qf:AK->Bool
 |.fail=>true
 |_=>false
def Xe (N:Nat)(a b:Option Nat):Bool:=
 match a,b with
 |none,none=>true
 |some x,some y=>Nat.beq x y&&Nat.blt x N
 |_,_=>false
theorem SX {a b:Option Nat}(h:Xe N a b=true):a=b/\∀t,a=some t->t<N:=by
 unfold Xe at h
 split at h
 ·exact⟨rfl,fun t ht=>by cases ht⟩
 ·rw[Bool.and_eq_true,blt_eq] at h
  have:=Nat.eq_of_beq_eq_true h.1
  subst this
  exact⟨rfl,fun t ht=>by cases ht; simpa using h.2⟩
 ·cases h
def IK (P:Program)(X:Nat->Option Ext)(N:Nat)(GT:Nat->Option AV)(ops:Array Oper)(o:Oper)(ao:Bw):Bool:=
 Xe N o.dst ao.dst&&Qy N ops o.guard ao.guard&&(Qf ao.k||match Ms P X ao.k o.op with
  |some os=>Po N GT os ao.args
  |none=>false)
end
end Go.Am
end
section
namespace Go.Am
open Go Go.RowKit
variable {P:Program}
def dI (P:Program)(ops:Array Oper)(o:Oper)(a:Act)(w:World)(R:Act->World->Prop):Prop:=
 ∀(K:Act->World->Prop) (Q:Exit->Act->World->Prop),(∀a' w',R a' w'->K a' w') ->
  (if Region.wanted o (yielded ops a.tmps) then o.wp P a w K Q∨(o.asks P a w/\LetsOut Q) else K (a.put o.dst undef) w)
def At (base:Nat)(w0:Start)(N:Nat)(I:Cv)(μ:Mu)(st:St)(S:Nat->Prop)(Q:TS × St->Prop)(a:Act)(a':Act)(w':World):Prop:=
 ∃ts' st' J ν,Q (ts',st')/\Ay base w0 J ν st' w'/\Il N J ν ts' a'/\Nx I μ st S J ν st'/\a'.defers=a.defers
theorem put_defers (a:Act)(d:Option Nat)(v:Value):(a.put d v).defers=a.defers:=by cases d <;> rfl
structure PQ (P:Program) where
 E:Env
 X:Nat->Option Ext
 GT:Nat->Option AV
 ext:Vx P X
 eU:Xn P E
section
variable {G:PQ P}{base:Nat}{w0:Start}{I:Cv}{μ:Mu}{st:St}{w:World}{N:Nat}{ts:TS}{a:Act}
theorem XL {E:Env}{call:Nat->List AV->St->M (AV × St)}{s:Nat}{k:AK}{args:List AV}{Q:AV × St->Prop}(hf:Qf k=true)(h:(GM E call s k args st).all Q):False:=by
 cases k <;> simp[Qf] at hf
 exact h
theorem YP {call:Nat->List AV->St->M (AV × St)}(hcall:HV P G.GT call)(H:Ay base w0 I μ st w)(hlo:st.lo<=st.c)(hF:Il N I μ ts a)(hG:DV G.GT I){ops:Array Oper}{o:Oper}{ao:Bw}(hc:IK P G.X N G.GT ops o ao=true){s:Nat}(hid:Xo s μ st ao.k){Q:TS × St->Prop}(h:(Ij G.E call s ao ts st).all Q) :
 dI P ops o a w (At base w0 N I μ st (fun p=>(Dk ao.k).map (s+·)=some p) Q a):=by
 simp only[IK,Bool.and_eq_true,Bool.or_eq_true] at hc
 obtain⟨⟨hd,hg⟩,hk⟩:=hc
 obtain⟨hd1,hd2⟩:=SX hd
 have hw:=VF hF hg
 intro K Q' hK
 rw[hw]
 unfold Ij at h
 rw[cond_eq_ite] at h
 by_cases hwant:wanted ao.guard ts=true
 ·rw[if_pos hwant] at h ⊢
  refine .inl ?_
  rw[M.all_bind] at h
  rcases hk with hk|hk
  ·exact (XL hk h).elim
  ·split at hk
   ·rename_i os hos
    have ha:=Ku hF hG hk
    refine kK hcall hG G.ext G.eU H hlo hos ha hid h K Q' fun rv w' hr=>hK _ _ ?_
    obtain⟨v,st',J,ν,h1,h2,h3,h4⟩:=hr
    refine⟨put ts ao.dst v,st',J,ν,h1,h2,?_,h4,put_defers _ _ _⟩
    rw[← hd1]
    exact (hF.mono h4.JZ h4.le).put h3 hd2
   ·cases hk
 ·rw[if_neg hwant] at h ⊢
  refine hK _ _ ⟨put ts ao.dst .undef,st,I,μ,h,H,?_,Nx.refl _ _ _ _,put_defers _ _ _⟩
  rw[← hd1]
  exact hF.put (.tuple [] [] .nil) hd2
def KW (P:Program)(X:Nat->Option Ext)(N:Nat)(GT:Nat->Option AV)(ops:Array Oper):List Oper->List Bw->Bool
 |[],[]=>true
 |o::l,ao::m=>IK P X N GT ops o ao&&KW P X N GT ops l m
 |_,_=>false
def Ha (l:List Bw):List Nat:=l.filterMap fun o=>Dk o.k
def VD (na:Nat):List Nat->Bool
 |[]=>true
 |i::l=>Nat.blt i na&&!l.any (Nat.beq i)&&VD na l
theorem SF {na i:Nat}{l:List Nat}(h:VD na (i::l)=true):i<na/\i∉l/\VD na l=true:=by
 simp only[VD,Bool.and_eq_true,Bool.not_eq_true',blt_eq,decide_eq_true_eq,List.any_eq_false] at h
 exact⟨h.1.1,fun hm=>h.1.2 i hm (by simp),h.2⟩
theorem VC {na i:Nat}{l:List Nat}(h:VD na l=true)(hm:i∈l):i<na:=by
 induction l with
 |nil=>cases hm
 |cons j l ih=>
  obtain⟨h1,h2,h3⟩:=SF h
  rcases List.mem_cons.1 hm with e|e
  ·subst e; exact h1
  ·exact ih h3 e
theorem At.mono {S T:Nat->Prop}{Q:TS × St->Prop}{a':Act}{w':World}(hT:∀p,p<st.c->S p->T p)(h:At base w0 N I μ st S Q a a' w'):At base w0 N I μ st T Q a a' w':=by
 obtain⟨ts',st',J,ν,h1,h2,h3,h4,h5⟩:=h
 exact⟨ts',st',J,ν,h1,h2,h3,h4.mono hT,h5⟩
theorem DV.mono {GT:Nat->Option AV}{J:Cv}(h:DV GT I)(hI:I.le J):DV GT J:=fun g u hu=>⟨fun ht=>((h g u hu).1 ht).imp fun _ hm=>hI.1 _ _ _ hm,fun ht μ=>((h g u hu).2.1 ht μ).mono hI (fun _ _ h=>h),fun cs hc hne=>(by obtain⟨ty,fz,rvs,h1,h2⟩:=(h g u hu).2.2 cs hc hne; exact⟨ty,fz,rvs,hI.2 _ _ h1,fun μ=>(h2 μ).mono hI (fun _ _ h=>h)⟩)⟩
theorem gP {call:Nat->List AV->St->M (AV × St)}(hcall:HV P G.GT call){ops:Array Oper}{s na:Nat}{Qx:Exit->Act->World->Prop}:∀(l:List Bw) (os:List Oper) (i:Nat) (st:St) (ts:TS) (a:Act) (w:World) (I:Cv) (μ:Mu) (Q:TS × St->Prop),
 ops.toList.drop i=os->KW P G.X N G.GT ops os l=true->Ay base w0 I μ st w->st.lo<=s->s+na<=st.c->Il N I μ ts a->DV G.GT I->VD na (Ha l)=true->(∀id∈Ha l,μ (s+id)=none)->(HY G.E call s l ts st).all Q ->
 (∀a' w',At base w0 N I μ st (s<=·) Q a a' w'->Qx .normal a' w')->wpOps P ops Qx (List.range' i os.length) a w:=by
 intro l
 induction l with
 |nil=>
  intro os i st ts a w I μ Q hos hc H hlo hna hF hG hids hfree h hQ
  cases os with
  |nil=>
   show Qx .normal a w
   exact hQ a w ⟨ts,st,I,μ,h,H,hF,Nx.refl _ _ _ _,rfl⟩
  |cons o os=>simp[KW] at hc
 |cons ao l ih=>
  intro os i st ts a w I μ Q hos hc H hlo hna hF hG hids hfree h hQ
  cases os with
  |nil=>simp[KW] at hc
  |cons o os=>
   simp only[KW,Bool.and_eq_true] at hc
   have hoi:ops[i]? =some o:=by
    rw[← Array.getElem?_toList]
    exact (getElem?_of_drop hos).1
   have hos':=(getElem?_of_drop hos).2
   rw[List.length_cons,List.range'_succ]
   simp only[wpOps,hoi]
   have hid:Xo s μ st ao.k:=by
    intro id hid
    have hm:id∈Ha (ao::l):=by simp[Ha,hid]
    have:=VC hids hm
    exact⟨hfree id hm,by omega,by omega⟩
   have hids':VD na (Ha l)=true/\∀id,Dk ao.k=some id->id∉Ha l:=by
    cases hk:Dk ao.k with
    |none=>
     have:Ha (ao::l)=Ha l:=by simp[Ha,hk]
     rw[this] at hids
     exact⟨hids,fun id h=>by cases h⟩
    |some id0=>
     have:Ha (ao::l)=id0::Ha l:=by simp[Ha,hk]
     rw[this] at hids
     obtain⟨h1,h2,h3⟩:=SF hids
     exact⟨h3,fun id h=>by cases h; exact h2⟩
   have hsub:∀id∈Ha l,id∈Ha (ao::l):=fun id hm=>by
    cases hk:Dk ao.k with
    |none=>simpa [Ha,hk] using hm
    |some id0=>simp[Ha,hk]; right; simpa [Ha] using hm
   rw[HY,M.all_bind] at h
   refine YP hcall H (by omega) hF hG hc.1 hid h _ _ fun a' w' hr=>?_
   obtain⟨ts',st',J,ν,h1,h2,h3,h4,h5⟩:=hr
   refine ih os (i+1) st' ts' a' w' J ν Q hos' hc.2 h2 (by rw[h4.lo]; exact hlo) (Nat.le_trans hna h4.c) h3 (hG.mono h4.JZ) hids'.1 (fun id hm=>?_) h1 fun a2 w2 hr=>hQ a2 w2 ?_
   ·have Bc:=VC hids (hsub id hm)
    rw[h4.same (s+id) (by omega) fun e=>?_]
    ·exact hfree id (hsub id hm)
    ·obtain⟨id0,g1,g2⟩:=Option.map_eq_some_iff.1 e
     have:id0=id:=by omega
     subst this
     exact hids'.2 id0 g1 hm
   ·obtain⟨ts2,st2,K,ξ,g1,g2,g3,g4,g5⟩:=hr
    refine⟨ts2,st2,K,ξ,g1,g2,g3,?_,g5.trans h5⟩
    refine (h4.mono (T:=(s<=·)) fun p _ e=>?_).trans g4 fun p _ h=>h
    obtain⟨id0,_,q⟩:=Option.map_eq_some_iff.1 e
    show s<=p
    omega
def Oc (P:Program)(X:Nat->Option Ext)(N:Nat)(GT:Nat->Option AV)(ops:Array Oper)(na:Nat)(l:List Bw):Bool:=
 KW P X N GT ops ops.toList l&&VD na (Ha l)
theorem Yu {call:Nat->List AV->St->M (AV × St)}(hcall:HV P G.GT call){ops:Array Oper}{na:Nat}{l:List Bw}(hc:Oc P G.X N G.GT ops na l=true)(H:Ay base w0 I μ st w)(hlo:st.lo<=st.c)(hF:Il N I μ ts a)(hG:DV G.GT I){Q:TS × St->Prop}(h:(HY G.E call st.c l ts { st with c:=st.c+na }).all Q){Qx:Exit->Act->World->Prop}(hQ:∀a' w',At base w0 N I μ st (fun _=>False) Q a a' w'->Qx .normal a' w')(id:Nat):(Code.region id ops false).wp P Qx a w:=by
 simp only[Oc,Bool.and_eq_true] at hc
 refine wp_region ?_
 have hr:List.range ops.size=List.range' 0 ops.toList.length:=by rw[List.range_eq_range']; simp
 rw[hr]
 have H':Ay base w0 I μ { st with c:=st.c+na } w:=H.more (Nat.le_add_right _ _)
 refine gP (G:=G) (N:=N) (s:=st.c) (na:=na) hcall l ops.toList 0 _ ts a w I μ Q rfl hc.1 H' hlo (Nat.le_refl _) hF hG hc.2 (fun id _=>H.VV _ (Nat.le_add_right _ _)) h fun a' w' hr=>hQ a' w' ?_
 obtain⟨ts',st',J,ν,h1,h2,h3,h4,h5⟩:=hr
 refine⟨ts',st',J,ν,h1,h2,h3,⟨h4.JZ,h4.le,fun p hp _=>h4.same p (Nat.lt_of_lt_of_le hp (Nat.le_add_right _ _)) (by show ¬st.c<=p; omega),Nat.le_trans (Nat.le_add_right _ _) h4.c,h4.lo,
  fun p hp _ hn=>h4.kept p (Nat.lt_of_lt_of_le hp (Nat.le_add_right _ _)) (by show ¬st.c<=p; omega) hn⟩,h5⟩
end
end Go.Am
end
section
namespace Go.Am
open Go Go.RowKit
def LY:AK->Bool
 |.move|.pick|.build ..|.nilCheck|.bin _|.eq ..|.PV ..|.un _|.Ab _|.IJ|.BZ _|.Im ..|.BH ..|.fieldAddr _|.field ..|.Cy ..|.Ag|.extract _|.len .str|.len .slice|.cap|.min|.max|.LJ|.ext _=>true
 |_=>false
def dJ (st st2:St):Prop:=∀p x,AA st.h p=some x->AA st2.h p=some x
section
variable {s:Nat}{k:AK}{args:List AV}{st st' st2:St}{v:AV}
theorem Gw {x:Option AV}(h:Df st x=some (v,st')):Df st2 x=some (v,st2):=by
 unfold Df at h ⊢
 split at h
 ·cases h; rfl
 ·cases h
theorem CZ {f g:AV->R}(h:FJ args f=some (v,st'))(hf:∀x,f x=some (v,st')->g x=some (v,st2)):FJ args g=some (v,st2):=by
 obtain⟨x,rfl,h⟩:=Az h
 exact hf x h
theorem FE {f g:AV->AV->R}(h:GD args f=some (v,st'))(hf:∀x y,f x y=some (v,st')->g x y=some (v,st2)):GD args g=some (v,st2):=by
 obtain⟨x,y,rfl,h⟩:=BM h
 exact hf x y h
theorem Zn {f g:AV->AV->AV->R}(h:RA args f=some (v,st'))(hf:∀x y z,f x y z=some (v,st')->g x y z=some (v,st2)):RA args g=some (v,st2):=by
 obtain⟨x,y,z,rfl,h⟩:=Ff h
 exact hf x y z h
theorem Qk (hk:LY k=true)(h:step s k args st=some (v,st')):step s k args st2=some (v,st2):=by
 cases k <;> simp only[LY,Bool.false_eq_true] at hk <;> simp only[step] at h ⊢
 case move=>exact CZ h fun x g=>by cases g; rfl
 case pick=>exact Zn h fun x y z g=>by unfold LV at g ⊢; split at g <;> cases g; rfl
 case build=>exact Gw h
 case nilCheck=>exact CZ h fun x g=>by unfold CQ at g ⊢; split at g <;> cases g <;> rfl
 case bin=>exact FE h fun x y g=>Gw g
 case eq=>exact FE h fun x y g=>Gw g
 case PV=>
  refine FE h fun x y g=>?_
  unfold QN at g ⊢
  split at g
  ·split at g <;> cases g; rfl
  ·split at g
   ·cases g; rfl
   ·rw[cond_eq_ite] at g ⊢
    split at g
    ·rename_i hc
     rw[if_pos hc]
     split at g
     ·split at g <;> cases g; rfl
     ·cases g
    ·rename_i hc
     rw[if_neg hc]
     cases g; rfl
   ·cases g
  ·cases g
 case un=>exact CZ h fun x g=>Gw g
 case Ab=>exact CZ h fun x g=>by unfold Hq at g ⊢; split at g <;> cases g; rfl
 case IJ=>
  exact CZ h fun x g=>by
   unfold Gc at g ⊢
   split at g
   ·cases g; rfl
   ·split at g
    ·rename_i hn; cases g; simp only[hn,if_true]
    ·cases g
   ·cases g
 case BZ=>exact CZ h fun x g=>by cases g; rfl
 case Im=>cases h; rfl
 case BH=>
  unfold CJ at h ⊢
  split at h
  ·split at h
   ·split at h
    ·rw[cond_eq_ite] at h ⊢
     split at h
     ·rename_i hc; rw[if_pos hc]; cases h; rfl
     ·cases h
    ·cases h
   ·cases h
  ·cases h
 case fieldAddr=>exact CZ h fun x g=>by unfold DR at g ⊢; split at g <;> cases g <;> rfl
 case field=>
  refine CZ h fun x g=>?_
  unfold Lt at g ⊢
  split at g
  ·split at g
   ·rw[cond_eq_ite] at g ⊢
    split at g
    ·rename_i hc; rw[if_pos hc]; cases g; rfl
    ·cases g
   ·exact Gw g
  ·cases g
 case Cy=>
  refine FE h fun x y g=>?_
  unfold Ho at g ⊢
  split at g
  ·rw[cond_eq_ite] at g ⊢
   split at g
   ·rename_i hc
    rw[if_pos hc]
    split at g <;> cases g <;> rfl
   ·cases g
  ·cases g
 case Ag=>
  refine FE h fun x y g=>?_
  unfold CR at g ⊢
  split at g
  ·split at g
   ·split at g <;> cases g; rfl
   ·cases g
  ·cases g
 case extract=>
  refine CZ h fun x g=>?_
  unfold Gb at g ⊢
  split at g
  ·exact Gw g
  ·cases g
 case len lk=>
  refine CZ h fun x g=>?_
  unfold Be at g ⊢
  cases lk with
  |str=>simp only at g ⊢; split at g <;> cases g; rfl
  |slice=>simp only at g ⊢; split at g <;> cases g; rfl
  |map=>cases hk
 case cap=>exact CZ h fun x g=>by unfold MO at g ⊢; split at g <;> cases g <;> rfl
 case min=>
  unfold Ou at h ⊢
  split at h
  ·exact Gw h
  ·cases h
 case max=>
  unfold Ov at h ⊢
  split at h
  ·exact Gw h
  ·cases h
 case LJ=>
  refine CZ h fun x g=>?_
  unfold GJ at g ⊢
  split at g
  ·cases g; rfl
  ·rw[cond_eq_ite] at g ⊢
   split at g
   ·rename_i hc; rw[if_pos hc]; cases g; rfl
   ·cases g
  ·cases g
 case ext e=>
  cases e with
  |same=>exact CZ (f:=fun x=>some (x,st)) (g:=fun x=>some (x,st2)) h fun x g=>by cases g; rfl
  |indexByte=>
   refine FE (f:=fun x y=>Dc x y st) (g:=fun x y=>Dc x y st2) h fun x y g=>?_
   unfold Dc at g ⊢
   split at g
   ·split at g <;> cases g; rfl
   ·cases g
  |compare=>
   refine FE (f:=fun x y=>JA x y st) (g:=fun x y=>JA x y st2) h fun x y g=>?_
   unfold JA at g ⊢
   split at g
   ·split at g <;> cases g; rfl
   ·cases g
theorem PS (hm:dJ st st2){sz n:Nat}{x:AV}{cs:List AV}(h:Au st.h sz n x=some cs):Au st2.h sz n x=some cs:=by
 unfold Au at h ⊢
 split at h
 ·exact h
 ·exact h
 ·split at h
  ·rename_i hf
   rw[hm _ _ hf]; exact h
  ·cases h
 ·cases h
theorem Wl (hm:dJ st st2)(hk:Dy k=true)(h:step s k args st=some (v,st')):step s k args st2=some (v,st2):=by
 cases hfr:LY k with
 |true=>exact Qk hfr h
 |false=>
 cases k <;> simp only[LY,Dy,reduceCtorEq,Bool.false_eq_true,Bool.true_eq_false] at hk hfr <;> simp only[step] at h ⊢
 case load agg=>
  refine CZ h fun x g=>?_
  have key:∀u,GU st.h agg x=some u->GU st2.h agg x=some u:=by
   intro u hu
   unfold GU at hu ⊢
   split at hu
   ·obtain⟨cs,h1,h2⟩:=Option.map_eq_some_iff.1 hu
    subst h2
    rw[Option.map_eq_some_iff]
    refine⟨cs,?_,rfl⟩
    unfold Ac at h1 ⊢
    split at h1
    ·split at h1
     ·rename_i hf; rw[hm _ _ hf]; exact h1
     ·cases h1
    ·exact h1
    ·cases h1
   ·unfold AP at hu ⊢
    split at hu
    ·split at hu
     ·rename_i hf; rw[hm _ _ hf]; exact hu
     ·cases hu
    ·exact hu
    ·cases hu
  unfold Df at g ⊢
  split at g
  ·rename_i u hu
   cases g
   rw[key _ hu]
  ·cases g
 case Ir=>
  refine CZ h fun x g=>?_
  unfold IE at g ⊢
  split at g
  ·cases g
  ·split at g
   ·split at g
    ·rename_i hc
     rw[PS hm hc]
     exact Gw g
    ·cases g
   ·cases g
 case slice sz lo hi mx=>
  unfold Bz at h ⊢
  split at h
  ·rename_i x l
   split at h
   ·split at h
    ·split at h
     ·have key:∀{a b c u},CE sz x a b c st.h=some u->CE sz x a b c st2.h=some u:=by
       intro a b c u hu
       unfold CE at hu ⊢
       split at hu
       ·exact hu
       ·exact hu
       ·split at hu
        ·rename_i hf; rw[hm _ _ hf]; exact hu
        ·cases hu
       ·cases hu
      unfold Df at h ⊢
      split at h
      ·rename_i u hu
       cases h
       rw[key hu]
      ·cases h
     ·cases h
    ·cases h
   ·cases h
  ·cases h
 case IM=>
  unfold Hm at h ⊢
  split at h
  ·split at h
   ·split at h
    ·split at h
     ·rename_i hf
      rw[hm _ _ hf]
      simp only[cond_eq_ite] at h ⊢
      split at h
      ·rename_i hc; rw[if_pos hc]; cases h; rfl
      ·cases h
     ·cases h
    ·cases h
   ·cases h
  ·cases h
 case indexAddr=>
  refine FE h fun x y g=>?_
  unfold Ad at g ⊢
  split at g
  ·split at g
   ·rw[cond_eq_ite] at g ⊢
    split at g
    ·rename_i hc
     rw[if_pos hc]
     split at g <;> cases g; rfl
    ·cases g
   ·split at g
    ·rename_i hf
     rw[hm _ _ hf]
     simp only[cond_eq_ite] at g ⊢
     split at g
     ·rename_i hc; rw[if_pos hc]; cases g; rfl
     ·cases g
    ·cases g
   ·cases g
  ·cases g
 case lookup kk zero ok=>
  refine FE h fun x y g=>?_
  have key:∀{ks vs:List AV} {k:AV},Ie kk zero ok ks vs k st=some (v,st')->Ie kk zero ok ks vs k st2=some (v,st2):=by
   intro ks vs k q
   unfold Ie Jj at q ⊢
   rw[cond_eq_ite] at q ⊢
   split at q
   ·rename_i hc
    rw[if_pos hc]
    split at q
    ·cases q; rfl
    ·split at q <;> cases q; rfl
    ·cases q
   ·cases q
  unfold Gq at g ⊢
  split at g
  ·exact key g
  ·split at g
   ·rename_i hf; rw[hm _ _ hf]; exact key g
   ·cases g
  ·exact key g
  ·cases g
 case entry=>
  refine CZ h fun x g=>?_
  unfold Lu at g ⊢
  split at g
  ·split at g
   ·rename_i hf
    rw[hm _ _ hf]
    simp only
    split at g
    ·rename_i hf2
     rw[hm _ _ hf2]
     simp only[cond_eq_ite] at g ⊢
     split at g
     ·rename_i hc
      rw[if_pos hc]
      split at g
      ·split at g
       ·split at g <;> cases g; rfl
       ·cases g
      ·cases g
     ·cases g
    ·cases g
   ·cases g
  ·cases g
 case len lk=>
  refine CZ h fun x g=>?_
  unfold Be at g ⊢
  cases lk with
  |str=>cases hfr
  |slice=>cases hfr
  |map=>
   simp only at g ⊢
   have key:∀n,QW st.h x=some n->QW st2.h x=some n:=by
    intro n hn
    unfold QW at hn ⊢
    split at hn
    ·exact hn
    ·split at hn
     ·rename_i hf; rw[hm _ _ hf]; exact hn
     ·cases hn
    ·exact hn
    ·cases hn
   split at g
   ·rename_i n hn
    cases g
    rw[key _ hn]
   ·cases g
 case ND=>
  refine CZ h fun x g=>?_
  unfold Jc at g ⊢
  split at g
  ·cases g; rfl
  ·split at g
   ·rename_i hf
    rw[hm _ _ hf]
    simp only[cond_eq_ite] at g ⊢
    split at g
    ·rename_i hc; rw[if_pos hc]; cases g; rfl
    ·cases g
   ·cases g
  ·cases g
end
end Go.Am
end
section
namespace Go.Am
open Go Go.RowKit
variable {P:Program}
inductive WC (ops:Array Oper):Nat->Nat->Prop
 |fw (i:Nat) (o:Oper) (d:Edge) (ho:ops[i]? =some o) (hd:d∈o.after) (hb:Region.binds .any d=true):WC ops d.on i
 |more (j i:Nat) (o:Oper) (d:Edge) (ho:ops[i]? =some o) (hd:d∈o.after) (hb:Region.binds .any d=true) (h:WC ops j d.on):WC ops j i
def gu:Gl->Option Nat
 |.tmp t=>some t
 |.val _=>none
def Mk (o:Bw):List Nat:=o.args.filterMap gu++(match o.guard with|some (t,_)=>[t]|none=>[])
def Tv (x y:Bw):Prop:=(∀d,x.dst=some d->d∉Mk y/\y.dst≠some d)/\(∀d,y.dst=some d->d∉Mk x)
abbrev DU:=Nat × Bw × List Nat
def IV (k:AK):Bool:=!(Dy k||DD k)
def Tw (T:Option (DU × DU))(f e:DU):Prop:=∃A B,T=some (A,B)/\((f.1=A.1/\e.1=B.1)∨(f.1=B.1/\e.1=A.1))
structure GH (T:Option (DU × DU))(ops:Array Oper)(f e:DU):Prop where
 fw:∀o,ops[f.1]? =some o->∀d∈o.after,Region.binds .any d=true->d.on≠e.1
 apart:Tv f.2.1 e.2.1∨WC ops f.1 e.1
 oD:IV f.2.1.k=true->WC ops f.1 e.1∨Tw T f e
 load:IV f.2.1.k=false->IV e.2.1.k=true->LY f.2.1.k=true∨DD f.2.1.k=true∨WC ops f.1 e.1∨(e.1∈f.2.2/\f.2.1.dst.isSome=true)
 ids:∀id,Dk f.2.1.k=some id->Dk e.2.1.k≠some id
structure RI (T:Option (DU × DU))(P:Program)(X:Nat->Option Ext)(N:Nat)(GT:Nat->Option AV)(ops:Array Oper)(na:Nat)(L:List DU):Prop where
 nodup:(L.map (·.1)).Nodup
 all:∀j,j<ops.size->j∈L.map (·.1)
 elem:∀e∈L,∃o,ops[e.1]? =some o/\IK P X N GT ops o e.2.1=true/\(∀d∈o.after,Region.binds .any d=true->d.on<ops.size/\d.on≠e.1)/\(∀id,Dk e.2.1.k=some id->id<na)
 pair:L.Pairwise (GH T ops)
 WM:∀A B,T=some (A,B)->IV B.2.1.k=true/\GH T ops B A/\∃L0,L=L0++[A,B]
abbrev Sl:=Nat->AV
def PR (g:Sl)(d:Option Nat)(v:AV):Sl:=match d with
 |some d=>fun j=>if d=j then v else g j
 |none=>g
def YC (g:Sl):Gl->AV
 |.tmp t=>g t
 |.val v=>v
def Fh (h:Option (Nat × Bool))(g:Sl):Bool:=match h with
 |none=>true
 |some (t,b)=>isBool b (g t)
theorem Oa (ts:TS)(l:List Gl):Qo ts l=l.map (YC ts.get):=by
 induction l with
 |nil=>rfl
 |cons o l ih=>simp only[Qo,List.map_cons,ih]; cases o <;> rfl
theorem Jz (h:Option (Nat × Bool))(ts:TS):wanted h ts=Fh h ts.get:=by cases h <;> rfl
theorem put_eq {N:Nat}(hN:N<2 ^ 15)(ts:TS){d:Option Nat}(hd:∀t,d=some t->t<N)(v:AV):(put ts d v).get=PR ts.get d v:=by
 cases d with
 |none=>rfl
 |some d=>
  funext j
  show (ts.set d v).get j=_
  have:=hd d rfl
  rw[TS.Pk _ _ _ _ (by omega)]; rfl
theorem fV {g:Sl}{d:Option Nat}{v:AV}{l:List Gl}(h:∀x,d=some x->x∉l.filterMap gu):l.map (YC (PR g d v))=l.map (YC g):=by
 apply List.map_congr_left
 intro o ho
 cases o with
 |val v=>rfl
 |tmp t=>
  cases d with
  |none=>rfl
  |some d=>
   have:d≠t:=fun e=>h d rfl (by subst e; exact List.mem_filterMap.2 ⟨_,ho,rfl⟩)
   simp[YC,PR,this]
theorem Ty {g:Sl}{d:Option Nat}{v:AV}{h:Option (Nat × Bool)}(hd:∀x b,d=some x->h≠some (x,b)):Fh h (PR g d v)=Fh h g:=by
 cases h with
 |none=>rfl
 |some p=>
  obtain⟨t,b⟩:=p
  cases d with
  |none=>rfl
  |some d=>
   have:d≠t:=fun e=>hd d b rfl (by rw[e])
   simp[Fh,PR,this]
theorem SA {g:Sl}{d:Option Nat}{v:AV}{o:Bw}(h:∀x,d=some x->x∉Mk o):o.args.map (YC (PR g d v))=o.args.map (YC g)/\Fh o.guard (PR g d v)=Fh o.guard g:=by
 refine⟨fV fun x hx hm=>h x hx (List.mem_append_left _ hm),Ty fun x b hx hg=>h x hx (List.mem_append_right _ ?_)⟩
 rw[hg]; simp
theorem aI {g:Sl}{d e:Option Nat}{v u:AV}(h:∀x,d=some x->e≠some x):PR (PR g d v) e u=PR (PR g e u) d v:=by
 cases d with
 |none=>rfl
 |some d=>
  cases e with
  |none=>rfl
  |some e=>
   have hne:e≠d:=fun q=>h d rfl (by rw[q])
   funext j
   simp only[PR]
   by_cases h1:e=j
   ·subst h1; simp[Ne.symm hne]
   ·simp[h1]
def chain (g:Sl):List (DU × AV)->Sl
 |[]=>g
 |(e,v)::l=>chain (PR g e.2.1.dst v) l
theorem Kv (g:Sl)(l m:List (DU × AV)):chain g (l++m)=chain (chain g l) m:=by
 induction l generalizing g with
 |nil=>rfl
 |cons x l ih=>exact ih _
def Told (s:Nat)(st:St)(μ:Mu)(p:Ik)(g:Sl)(e:DU)(v:AV):Prop:=
 (Fh e.2.1.guard g=false/\v=.undef)∨(Fh e.2.1.guard g=true /\
  ((Dy e.2.1.k=true/\step s e.2.1.k (e.2.1.args.map (YC g)) st=some (v,st)/\(LY e.2.1.k=true∨e.2.2=[]∨e.2.1.dst.isSome=false∨(e.2.2,e.2.1.k,e.2.1.args.map (YC g),v)∈p)) ∨
   (DD e.2.1.k=true/\∃id ob,Dk e.2.1.k=some id/\born s e.2.1.k (e.2.1.args.map (YC g))=some (v,ob)/\AA st.h (s+id)=some ob/\μ (s+id)=none)))
def FT (s:Nat)(st:St)(μ:Mu)(p:Ik):Sl->List (DU × AV)->Prop
 |_,[]=>True
 |g,(e,v)::l=>IV e.2.1.k=false/\Told s st μ p g e v/\FT s st μ p (PR g e.2.1.dst v) l
section
variable {s:Nat}{st st':St}{μ ν:Mu}{p p':Ik}
theorem FT.append {g:Sl}{l m:List (DU × AV)}:FT s st μ p g (l++m)↔FT s st μ p g l/\FT s st μ p (chain g l) m:=by
 induction l generalizing g with
 |nil=>simp[FT,chain]
 |cons x l ih=>
  obtain⟨e,v⟩:=x
  simp only[List.cons_append,FT,chain,ih,and_assoc]
theorem FT.map {g:Sl}{l:List (DU × AV)}(h:FT s st μ p g l)(ht:∀e v,(e,v)∈l->∀g,Told s st μ p g e v->Told s st' ν p' g e v):FT s st' ν p' g l:=by
 induction l generalizing g with
 |nil=>trivial
 |cons x l ih=>
  obtain⟨e,v⟩:=x
  exact⟨h.1,ht e v (List.mem_cons_self ..) g h.2.1,ih h.2.2 fun e v hm=>ht e v (List.mem_cons_of_mem _ hm)⟩
theorem FT.PR {g:Sl}{l:List (DU × AV)}{d:Option Nat}{u:AV}(h:FT s st μ p g l)(hd:∀e v,(e,v)∈l->∀x,d=some x->x∉Mk e.2.1/\e.2.1.dst≠some x) :
 FT s st μ p (Am.PR g d u) l/\chain (Am.PR g d u) l=Am.PR (chain g l) d u:=by
 induction l generalizing g with
 |nil=>exact⟨trivial,rfl⟩
 |cons x l ih=>
  obtain⟨e,v⟩:=x
  have he:=hd e v (List.mem_cons_self ..)
  obtain⟨h1,h2⟩:=SA (g:=g) (v:=u) (o:=e.2.1) fun x hx=>(he x hx).1
  have h3:=ih h.2.2 fun e v hm=>hd e v (List.mem_cons_of_mem _ hm)
  have h4:Am.PR (Am.PR g d u) e.2.1.dst v=Am.PR (Am.PR g e.2.1.dst v) d u:=aI fun x hx=>(he x hx).2
  refine⟨⟨h.1,?_,by rw[h4]; exact h3.1⟩,by simp only[chain]; rw[h4]; exact h3.2⟩
  have:=h.2.1
  unfold Told at this ⊢
  rw[h1,h2]; exact this
theorem WS {i:Nat}{p:Ik}{st:St}(h:Cw s i p st=true){js:List Nat}{k:AK}{args:List AV}{v:AV}(hm:(js,k,args,v)∈p)(hi:i∈js):∃r,step s k args st=some r/\v=r.1:=by
 induction p with
 |nil=>cases hm
 |cons x p ih=>
  obtain⟨js',k',args',v'⟩:=x
  simp only[Cw,Bool.and_eq_true,Bool.or_eq_true,Bool.not_eq_true'] at h
  rcases List.mem_cons.1 hm with e|e
  ·cases e
   rcases h.1 with h1|h1
   ·exfalso
    have:js.any (Nat.beq i)=true:=List.any_eq_true.2 ⟨i,hi,by simp⟩
    rw[this] at h1; cases h1
   ·split at h1
    ·rename_i r hr; exact⟨r,hr,AV.beq_eq h1⟩
    ·cases h1
  ·exact ih h.2 e
end
def dG (listed:Array Bool)(i:Nat):Prop:=listed.getD i true=false
def Zy (listed:Array Bool)(i:Nat):Prop:=listed.getD i false=true
theorem bB {listed:Array Bool}{i:Nat}(hi:i<listed.size):Zy listed i↔¬dG listed i:=by
 unfold Zy dG
 simp only[Array.getD_eq_getD_getElem?,Array.getElem?_eq_getElem hi,Option.getD_some]
 cases listed[i] <;> simp
def Oi (ops:Array Oper)(listed:Array Bool):Prop:=∀i o,ops[i]? =some o->Zy listed i->∀d∈o.after,Region.binds .any d=true->Zy listed d.on
theorem gL {ops:Array Oper}{listed:Array Bool}(hc:Oi ops listed){j i:Nat}(h:WC ops j i):(∀o,ops[i]? =some o->∀d∈o.after,Region.binds .any d=true->Zy listed d.on)->Zy listed j:=by
 induction h with
 |fw i o d ho hd hb=>exact fun h=>h o ho d hd hb
 |more j i o d ho hd hb _ ih=>exact fun h=>ih fun o' ho' d' hd' hb'=>hc _ _ ho' (h o ho d hd hb) d' hd' hb'
theorem KD {ops:Array Oper}{listed:Array Bool}{i:Nat}:i∈Region.ready .any ops listed↔dG listed i/\∃o,ops[i]? =some o/\∀d∈o.after,Region.binds .any d=true->Zy listed d.on:=mem_ready
theorem Qu {ops:Array Oper}{listed:Array Bool}(hc:Oi ops listed){i:Nat}(hr:i∈Region.ready .any ops listed):Oi ops (listed.setIfInBounds i true):=by
 intro j o ho hj d hd hb
 have up:∀k,Zy listed k->Zy (listed.setIfInBounds i true) k:=fun k hk=>getD_set_true hk
 by_cases e:j=i
 ·subst e
  obtain⟨_,o',ho',h⟩:=KD.1 hr
  rw[ho] at ho'; cases ho'
  exact up _ (h d hd hb)
 ·have:Zy listed j:=by
   unfold Zy at hj ⊢
   rw[getD_set_ne false (Ne.symm e)] at hj; exact hj
  exact up _ (hc j o ho this d hd hb)
theorem Xp {listed:Array Bool}{i j:Nat}(hi:i<listed.size):dG (listed.setIfInBounds i true) j↔dG listed j/\j≠i:=by
 unfold dG
 by_cases e:j=i
 ·subst e
  simp[hi]
 ·rw[getD_set_ne true (Ne.symm e)]; simp[e]
end Go.Am
end
section
namespace Go.Am
open Go Go.RowKit
variable {P:Program}
section
variable {G:PQ P}{base:Nat}{w0:Start}{I:Cv}{μ:Mu}{st:St}{w:World}{N:Nat}{ts tb:TS}{a:Act}
theorem Wp {o:Oper}{v:AV}{st':St}{so:Option Nat}(h:BO P base w0 I μ st w so (execOp a.eval o) v st'):Tt P o a w fun rv w'=>∃ν,Tq base w0 I μ st so ν st' w' v rv:=by
 intro K Q hK
 obtain⟨n,rv,w',ν,h1,h2,h3⟩:=h
 have:=hK rv w' ⟨ν,h3⟩
 unfold Oper.wp
 rw[h1]
 rcases h2 with h2|⟨h2,h4⟩
 ·subst h2; exact this
 ·subst h2 h4; exact this
theorem Wm {k:AK}(h:Dy k=true):Qf k=false:=by cases k <;> simp[Dy] at h <;> rfl
theorem Zj {k:AK}(h:DD k=true):Qf k=false:=by cases k <;> simp[DD] at h <;> rfl
theorem aZ {k:AK}(h:Dy k=true):Dk k=none:=by cases k <;> simp[Dy] at h <;> rfl
theorem bI (H:Ay base w0 I μ st w)(hF:Il N I μ tb a)(hG:DV G.GT I){ops:Array Oper}{o:Oper}{e:DU}(hc:IK P G.X N G.GT ops o e.2.1=true){s:Nat}{p:Ik}{v:AV}(ht:Told s st μ p tb.get e v)(Bc:∀id,Dk e.2.1.k=some id->s+id<st.c) :
 dI P ops o a w fun a' w'=>∃rv ν,a'=a.put o.dst rv/\Ay base w0 I ν st w'/\Ae I ν v rv/\μ.le ν/\∀q,(Dk e.2.1.k).map (s+·)≠some q->ν q=μ q:=by
 simp only[IK,Bool.and_eq_true,Bool.or_eq_true] at hc
 obtain⟨⟨hd,hg⟩,hk⟩:=hc
 have hw:=VF hF hg
 rw[Jz] at hw
 intro K Q' hK
 rw[hw]
 rcases ht with⟨h1,h2⟩|⟨h1,h2⟩
 ·rw[if_neg (by rw[h1]; exact Bool.false_ne_true)]
  exact hK _ _ ⟨undef,μ,rfl,H,by rw[h2]; exact .tuple [] [] .nil,fun _ _ h=>h,fun _ _=>rfl⟩
 ·rw[if_pos h1]
  refine .inl ?_
  have key:BO P base w0 I μ st w ((Dk e.2.1.k).map (s+·)) (execOp a.eval o) v st:=by
   rcases h2 with⟨hq,hs,_⟩|⟨hb,id,ob,hid,hbo,hf,hμ⟩
   ·rcases hk with hk|hk
    ·rw[Wm hq] at hk; cases hk
    ·split at hk
     ·rename_i os hos
      have ha:=Ku hF hG hk
      rw[Oa] at ha
      exact UC H G.ext hos (fun _=>rfl) ha (fun id hid=>by rw[aZ hq] at hid; cases hid) hs
     ·cases hk
   ·rcases hk with hk|hk
    ·rw[Zj hb] at hk; cases hk
    ·split at hk
     ·rename_i os hos
      have ha:=Ku hF hG hk
      rw[Oa] at ha
      rw[hid]
      exact Vj H hos ha hbo hid hf hμ (Bc id hid)
     ·cases hk
  refine Wp key K Q' fun rv w' hr=>hK _ _ ?_
  obtain⟨ν,h3⟩:=hr
  exact⟨rv,ν,rfl,h3.rel,h3.val,h3.le,fun q hq=>h3.same q (Ne.symm hq)⟩
theorem Zq {E:Env}{call:Nat->List AV->St->M (AV × St)}{s:Nat}{k:AK}{args:List AV}(h:IV k=false):GM E call s k args st=M.Bt (step s k args st):=by
 cases k <;> first|rfl|(simp[IV,Dy,DD] at h)
theorem fA {E:Env}{call:Nat->List AV->St->M (AV × St)}{s:Nat}{e:DU}(he:IV e.2.1.k=false){Q:TS × St->Prop}(h:(Ij E call s e.2.1 ts st).all Q)(H:Ay base w0 I μ st w)(hid:∀id,Dk e.2.1.k=some id->μ (s+id)=none/\AA st.h (s+id)=none/\s+id<st.c)(hdN:∀d,e.2.1.dst=some d->d+1<2 ^ 16)(p:Ik) :
 ∃v st',Q (put ts e.2.1.dst v,st')/\Ay base w0 I μ st' w/\st'.c=st.c/\st'.lo=st.lo/\dJ st st'/\(∀q,(Dk e.2.1.k).map (s+·)≠some q->AA st'.h q=AA st.h q) /\
  Told s st' μ (NP e.2.1 e.2.2 ts (put ts e.2.1.dst v) p) ts.get e v:=by
 unfold Ij at h
 rw[cond_eq_ite] at h
 by_cases hw:wanted e.2.1.guard ts=true
 ·rw[if_pos hw,M.all_bind,Zq he] at h
  obtain⟨⟨v,st'⟩,h1,h2⟩:=M.MH h
  rw[Oa] at h1
  have hw':Fh e.2.1.guard ts.get=true:=by rw[← Jz]; exact hw
  cases hq:Dy e.2.1.k with
  |true=>
   have:=Mf hq h1
   subst this
   refine⟨v,st',h2,H,rfl,rfl,fun _ _ h=>h,fun _ _=>rfl,.inr ⟨hw',.inl ⟨hq,h1,?_⟩⟩⟩
   by_cases hf:LY e.2.1.k=true
   ·exact .inl hf
   refine .inr ?_
   cases hjs:e.2.2 with
   |nil=>exact .inl rfl
   |cons j js=>
    refine .inr ?_
    cases hd:e.2.1.dst with
    |none=>exact .inl rfl
    |some d=>
     refine .inr ?_
     simp only[NP,hw,cond_true,hd]
     rw[Oa]
     have:(put ts (some d) v).get d=v:=by
      show (ts.set d v).get d=v
      rw[TS.Pk _ _ _ _ (hdN d hd)]; simp
     rw[this]
     exact List.mem_cons_self ..
  |false=>
   have hb:DD e.2.1.k=true:=by
    simp only[IV,hq,Bool.false_or,Bool.not_eq_false'] at he; exact he
   obtain⟨id,i1,i2⟩:=OJ (st:=st) (s:=s) (args:=e.2.1.args.map (YC ts.get)) hb
   rw[i2] at h1
   obtain⟨g1,g2,g3⟩:=hid id i1
   obtain⟨ob,b1,H',hf,hc,hl⟩:=Te H h1 g1 g3
   have hkept:=Sd h1
   have hmore:dJ st st':=by
    intro q x hx
    by_cases hqe:q=s+id
    ·subst hqe; rw[g2] at hx; cases hx
    ·rw[hkept q hqe]; exact hx
   refine⟨v,st',h2,H',hc,hl,hmore,fun q hne=>hkept q fun e'=>hne (by rw[i1,e']; rfl),.inr ⟨hw',.inr ⟨hb,id,ob,i1,b1,hf,g1⟩⟩⟩
 ·rw[if_neg hw] at h
  exact⟨.undef,st,h,H,rfl,rfl,fun _ _ h=>h,fun _ _=>rfl,.inl ⟨by rw[← Jz]; simpa using hw,rfl⟩⟩
theorem UU {o:Bw}{js:List Nat}{ts ts':TS}{p:Ik}{x:List Nat × AK × List AV × AV}(h:x∈p):x∈NP o js ts ts' p:=by
 unfold NP
 split
 ·exact h
 ·rw[cond_eq_ite]
  split
  ·split
   ·exact List.mem_cons_of_mem _ h
   ·exact h
  ·exact h
theorem Told.more {s:Nat}{st st':St}{μ:Mu}{p p':Ik}{g:Sl}{e:DU}{v:AV}(h:Told s st μ p g e v)(hm:dJ st st')(hp:∀x∈p,x∈p'):Told s st' μ p' g e v:=by
 rcases h with h|⟨h1,h2⟩
 ·exact .inl h
 ·refine .inr ⟨h1,?_⟩
  rcases h2 with⟨hq,hs,hj⟩|⟨hb,id,ob,i1,i2,i3,i4⟩
  ·exact .inl ⟨hq,Wl hm hq hs,hj.imp id fun h=>h.imp id fun h=>h.imp id fun h=>hp _ h⟩
  ·exact .inr ⟨hb,id,ob,i1,i2,hm _ _ i3,i4⟩
theorem Ld {X:Nat->Option Ext}{GT:Nat->Option AV}{ops:Array Oper}{o:Oper}{ao:Bw}(h:IK P X N GT ops o ao=true):o.dst=ao.dst/\∀d,ao.dst=some d->d<N:=by
 simp only[IK,Bool.and_eq_true] at h
 obtain⟨h1,h2⟩:=SX h.1.1
 exact⟨h1,fun d hd=>h2 d (h1.trans hd)⟩
theorem At.step {S:Nat->Prop}{J:Cv}{ν:Mu}{st':St}{Q:TS × St->Prop}{a0 a1 a2:Act}{w2:World}(hn:Nx I μ st S J ν st')(hd:a1.defers=a0.defers)(h:At base w0 N J ν st' S Q a1 a2 w2):At base w0 N I μ st S Q a0 a2 w2:=by
 obtain⟨ts',st2,K,ξ,h1,h2,h3,h4,h5⟩:=h
 exact⟨ts',st2,K,ξ,h1,h2,h3,hn.trans h4 fun p _ h=>h,h5.trans hd⟩
theorem Xk {E:Env}{call:Nat->List AV->St->M (AV × St)}{s:Nat}{o:Bw}(h1:o.args.map (YC ts.get)=o.args.map (YC tb.get))(h2:Fh o.guard ts.get=Fh o.guard tb.get){Q:TS × St->Prop}(h:(Ij E call s o ts st).all Q):(Ij E call s o tb st).all fun r=>∃v,r.1=put tb o.dst v/\Q (put ts o.dst v,r.2):=by
 unfold Ij at h ⊢
 rw[Jz,h2,← Jz,cond_eq_ite] at h
 rw[cond_eq_ite]
 split
 ·rename_i hw
  rw[if_pos hw] at h
  rw[Oa,h1,← Oa,M.all_bind] at h
  rw[M.all_bind]
  exact M.Ll h fun r hr=>⟨r.1,rfl,hr⟩
 ·rename_i hw
  rw[if_neg hw] at h
  exact⟨.undef,rfl,h⟩
theorem UO {ops:Array Oper}{X:Nat->Option Ext}{GT:Nat->Option AV}{na:Nat}{L:List DU}{T:Option (DU × DU)}(hD:RI T P X N GT ops na L){listed:Array Bool}(hsz:listed.size=ops.size){e:DU}{rest:List DU}(hsub:(e::rest).Sublist L)(hl:∀j,j<ops.size->(dG listed j↔j∈(e::rest).map (·.1))):e.1∈Region.ready .any ops listed:=by
 obtain⟨o,ho,_,hedge,_⟩:=hD.elem e (hsub.subset (List.mem_cons_self ..))
 have hi:e.1<ops.size:=(Array.getElem?_eq_some_iff.1 ho).1
 refine KD.2 ⟨(hl _ hi).2 (by simp),o,ho,fun d hd hb=>?_⟩
 obtain⟨h1,h2⟩:=hedge d hd hb
 rw[bB (by rw[hsz]; exact h1)]
 intro hu
 have:=(hl _ h1).1 hu
 rw[List.map_cons,List.mem_cons] at this
 rcases this with h|h
 ·exact h2 h
 ·obtain⟨g,hg,hge⟩:=List.mem_map.1 h
  have hp:=hD.pair.sublist hsub
  rw[List.pairwise_cons] at hp
  exact (hp.1 g hg).fw o ho d hd hb hge.symm
theorem Lh {o:Bw}:∀(l:List (DU × AV)) (g:Sl),(∀f u,(f,u)∈l->∀d,f.2.1.dst=some d->d∉Mk o)->o.args.map (YC (chain g l))=o.args.map (YC g)/\Fh o.guard (chain g l)=Fh o.guard g
 |[],g,_=>⟨rfl,rfl⟩
 |(f,u)::l,g,h=>by
  obtain⟨h1,h2⟩:=Lh l (PR g f.2.1.dst u) fun f u hm=>h f u (List.mem_cons_of_mem _ hm)
  obtain⟨h3,h4⟩:=SA (g:=g) (v:=u) (o:=o) fun x hx=>h f u (List.mem_cons_self ..) x hx
  exact⟨h1.trans h3,h2.trans h4⟩
theorem KG {l m:List Nat}(h:(l++m).Nodup){x:Nat}(h1:x∈l)(h2:x∈m):False:=by
 rw[List.nodup_append] at h
 exact h.2.2 x h1 x h2 rfl
def dH (T:Option (DU × DU))(R R2:List DU):Prop:=∃A B R0,T=some (A,B)/\R=R0++[A,B]/\R2=R0++[B,A]
def Oj (T:Option (DU × DU))(R:List DU)(Z:List DU->Prop):Prop:=Z R/\∀R2,dH T R R2->Z R2
theorem dH.cons {T:Option (DU × DU)}{e:DU}{R R2:List DU}(h:dH T R R2):dH T (e::R) (e::R2):=by
 obtain⟨A,B,R0,h1,rfl,rfl⟩:=h
 exact⟨A,B,e::R0,h1,rfl,rfl⟩
theorem aN {T:Option (DU × DU)}{e:DU}{R2:List DU}(h:dH T [e] R2):False:=by
 obtain⟨A,B,R0,_,h,_⟩:=h
 have:=congrArg List.length h
 simp at this
theorem M.dB {α ι:Type}{m:M α}{f:α->Prop}{c:ι->Prop}{g:ι->α->Prop}(h:m.all f)(h2:∀x,c x->m.all (g x)):m.all fun a=>f a/\∀x,c x->g x a:=by
 induction m with
 |ret a=>exact⟨h,h2⟩
 |fail=>exact h.elim
 |ask n k ih=>exact fun i hi=>ih i (h i hi) fun x hx=>h2 x hx i hi
theorem Oj.step {E:Env}{call:Nat->List AV->St->M (AV × St)}{T:Option (DU × DU)}{s:Nat}{e:DU}{R:List DU}{p:Ik}{ts:TS}{st:St}{Q:TS × St->Prop}(h:Oj T (e::R) fun R=>(CL E call s R p ts st).all Q) :
 (Ij E call s e.2.1 ts st).all fun r=>Oj T R fun R=>(bif Cw s e.1 p r.2 then CL E call s R (NP e.2.1 e.2.2 ts r.1 p) r.1 r.2 else .fail).all Q:=by
 obtain⟨e1,e2,e3⟩:=e
 obtain⟨h1,h2⟩:=h
 have h1:(CL E call s ((e1,e2,e3)::R) p ts st).all Q:=h1
 rw[CL,M.all_bind] at h1
 refine M.dB h1 fun R2 hs=>?_
 have h3:(CL E call s ((e1,e2,e3)::R2) p ts st).all Q:=h2 _ hs.cons
 rwa [CL,M.all_bind] at h3
theorem Oj.go {α:Type}{T:Option (DU × DU)}{R:List DU}{b:Bool}{m:List DU->M α}{Q:α->Prop}(h:Oj T R fun R=>(bif b then m R else .fail).all Q):b=true/\Oj T R fun R=>(m R).all Q:=by
 cases b with
 |true=>exact⟨rfl,h⟩
 |false=>exact h.1.elim
theorem FT.quiet {s:Nat}{st:St}{μ:Mu}{p:Ik}:∀{l:List (DU × AV)} {g:Sl},FT s st μ p g l->∀{f:DU} {u:AV},(f,u)∈l->IV f.2.1.k=false
 |[],_,_,_,_,hm=>by cases hm
 |(e,v)::l,_,h,f,u,hm=>by
  rcases List.mem_cons.1 hm with q|q
  ·cases q; exact h.1
  ·exact FT.quiet h.2.2 q
theorem Yc {L lag R:List DU}{e g A B:DU}{L0:List DU}(hn:(L.map (·.1)).Nodup)(hL:L=L0++[A,B])(hs:(lag++e::R).Sublist L)(hg:g∈R)(h:(e.1=A.1/\g.1=B.1)∨(e.1=B.1/\g.1=A.1)):e=A/\R=[B]:=by
 subst hL
 have hs':(e::R).Sublist (L0++[A,B]):=(List.sublist_append_right lag _).trans hs
 obtain⟨l1,l2,h1,h2,h3⟩:=List.sublist_append_iff.1 hs'
 cases l1 with
 |nil=>
  rw[List.nil_append] at h1
  subst h1
  have hlen:[A,B].length<=(e::R).length:=by
   cases R with
   |nil=>cases hg
   |cons x R=>simp
  have:=h3.eq_of_length_le hlen
  injection this with q1 q2
  exact⟨q1,q2⟩
 |cons x l1=>
  exfalso
  rw[List.cons_append] at h1
  injection h1 with q1 q2
  subst q1
  have hx:e.1∈L0.map (·.1):=List.mem_map.2 ⟨e,h2.subset (List.mem_cons_self ..),rfl⟩
  rw[List.map_append] at hn
  rcases h with⟨q,_⟩|⟨q,_⟩
  ·exact KG hn hx (by rw[q]; simp)
  ·exact KG hn hx (by rw[q]; simp)
theorem fE {call:Nat->List AV->St->M (AV × St)}(hcall:HV P G.GT call){ops:Array Oper}{na:Nat}{L:List DU}{T:Option (DU × DU)}(hD:RI T P G.X N G.GT ops na L){s:Nat}{Qx:Exit->Act->World->Prop} :
 ∀(fuel:Nat) (R:List DU) (lag:List (DU × AV)) (p:Ik) (tb ts:TS) (st:St) (a:Act) (w:World) (I:Cv) (μ:Mu) (Q:TS × St->Prop) (listed:Array Bool),
 R.length+lag.length<=fuel->(lag.map (·.1)++R).Sublist L->listed.size=ops.size->(∀j,j<ops.size->(dG listed j↔j∈(lag.map (·.1)++R).map (·.1)))->Oi ops listed ->
 Ay base w0 I μ st w->st.lo<=s->s+na<=st.c->Il N I μ tb a->DV G.GT I->ts.get=chain tb.get lag->FT s st μ p tb.get lag ->
 (∀e∈R,∀id,Dk e.2.1.k=some id->μ (s+id)=none/\AA st.h (s+id)=none)->(Oj T R fun R=>(CL G.E call s R p ts st).all Q) ->
 (∀a' w',At base w0 N I μ st (s<=·) Q a a' w'->Qx .normal a' w')->wpAny P .any ops Qx fuel listed a w:=by
 intro fuel
 induction fuel with
 |zero=>
  intro R lag p tb ts st a w I μ Q listed hfuel hsub hsz hl hcl H hlo hna hF hG hts hlag hids h hQ
  have hR:R=[]:=List.eq_nil_of_length_eq_zero (by omega)
  have hL:lag=[]:=List.eq_nil_of_length_eq_zero (by omega)
  subst hR hL
  refine⟨?_,hQ a w ⟨ts,st,I,μ,h.1,H,⟨hF.size,hF.small,fun t ht=>?_⟩,Nx.refl _ _ _ _,rfl⟩⟩
  ·rw[List.eq_nil_iff_forall_not_mem]
   intro j hj
   obtain⟨hu,o,ho,_⟩:=KD.1 hj
   have:=(hl j (Array.getElem?_eq_some_iff.1 ho).1).1 hu
   simp at this
  ·rw[hts]; exact hF.get t ht
 |succ fuel IH=>
  have oD:∀(e:DU) (R:List DU) (lag:List (DU × AV)) (p:Ik) (tb ts:TS) (st:St) (a:Act) (w:World) (I:Cv) (μ:Mu) (Q:TS × St->Prop) (listed:Array Bool),IV e.2.1.k=true->e∈L ->
   R.length+lag.length<=fuel->(lag.map (·.1)++R).Sublist L->((lag.map (·.1)++e::R).map (·.1)).Nodup->listed.size=ops.size->(∀j,j<ops.size->(dG listed j↔j∈(lag.map (·.1)++e::R).map (·.1)))->Oi ops listed ->
   Ay base w0 I μ st w->st.lo<=s->s+na<=st.c->Il N I μ tb a->DV G.GT I->ts.get=chain tb.get lag->FT s st μ p tb.get lag ->
   (∀f∈e::R,∀id,Dk f.2.1.k=some id->μ (s+id)=none/\AA st.h (s+id)=none) ->
   ((Ij G.E call s e.2.1 ts st).all fun r=>Oj T R fun R=>(bif Cw s e.1 p r.2 then CL G.E call s R (NP e.2.1 e.2.2 ts r.1 p) r.1 r.2 else .fail).all Q) ->
   (∀a' w',At base w0 N I μ st (s<=·) Q a a' w'->Qx .normal a' w')->(∀f u,(f,u)∈lag->GH T ops f e)->(∀f∈R,GH T ops e f)->(∀f u,(f,u)∈lag->¬WC ops f.1 e.1)->e.1∈Region.ready .any ops listed ->
   wpOp P ops Qx e.1 (wpAny P .any ops Qx fuel (listed.setIfInBounds e.1 true)) a w:=by
   intro e R lag p tb ts st a w I μ Q listed hee heL hfuel hsub hnd hsz hl hcl H hlo hna hF hG hts hlag hids h hQ hap hap2 hnb hi
   obtain⟨hu,o,ho,hedges⟩:=KD.1 hi
   have hilt:e.1<ops.size:=(Array.getElem?_eq_some_iff.1 ho).1
   have hcl':=Qu hcl hi
   unfold wpOp
   simp only[ho]
   have hapA:∀f u,(f,u)∈lag->Tv f.2.1 e.2.1:=fun f u hf=>(hap f u hf).apart.resolve_right (hnb f u hf)
   obtain⟨c1,c2⟩:=Lh (o:=e.2.1) lag tb.get fun f u hf d hd=>((hapA f u hf).1 d hd).1
   obtain⟨o',ho',hc,_,hidlt⟩:=hD.elem e heL
   rw[ho] at ho'; cases ho'
   obtain⟨hd1,hd2⟩:=Ld hc
   obtain⟨e1,e2,e3⟩:=e
   have h':=Xk (tb:=tb) (by rw[hts]; exact c1) (by rw[hts]; exact c2) h
   refine YP hcall H (by omega) hF hG hc (fun id hid=>⟨(hids _ (List.mem_cons_self ..) id hid).1,by have:=hidlt id hid; omega,by omega⟩) h' _ Qx fun a' w' hr=>?_
   obtain⟨ts',st',J,ν,⟨v,g1,g2⟩,H',hF',hN,hdf⟩:=hr
   simp only at g1 g2
   subst g1
   obtain⟨hst,g2⟩:=Oj.go g2
   ·skip
    obtain⟨u1,u2⟩:=FT.PR (u:=v) hlag (d:=e2.dst) fun f u hf x hx=>⟨(hapA f u hf).2 x hx,fun hfx=>((hapA f u hf).1 x hfx).2 hx⟩
    have LZ:=put_eq hF.small tb hd2 v
    have hput2:=put_eq hF.small ts hd2 v
    have hidne:∀f,GH T ops f (e1,e2,e3)∨GH T ops (e1,e2,e3) f->∀id,Dk f.2.1.k=some id->¬(Dk e2.k).map (s+·)=some (s+id):=fun f hf id hid q=>by
     obtain⟨id',q1,q2⟩:=Option.map_eq_some_iff.1 q
     have:id'=id:=by omega
     subst this
     rcases hf with hf|hf
     ·exact hf.ids _ hid q1
     ·exact hf.ids _ q1 hid
    have hidc:∀f,f∈L->∀id,Dk f.2.1.k=some id->s+id<st.c:=fun f hf id hid=>by
     obtain⟨_,_,_,_,q⟩:=hD.elem f hf
     have:=q id hid; omega
    refine IH R lag (NP e2 e3 ts (put ts e2.dst v) p) (put tb e2.dst v) (put ts e2.dst v) st' a' w' J ν Q _ (by omega) hsub (by simp[hsz]) (fun j hj=>?_) hcl' H'
     (by rw[hN.lo]; exact hlo) (Nat.le_trans hna hN.c) hF' (hG.mono hN.JZ) ?_ ?_ (fun f hf id hid=>?_) g2 fun a2 w2 hr=>hQ a2 w2 ?_
    ·rw[Xp (by rw[hsz]; exact hilt),hl j hj]
     simp only[List.map_append,List.map_cons,List.mem_append,List.mem_cons] at hnd ⊢
     rw[List.nodup_append,List.nodup_cons] at hnd
     obtain⟨n1,⟨n2,n3⟩,n4⟩:=hnd
     constructor
     ·rintro⟨h1,h2⟩
      rcases h1 with h1|h1|h1
      ·exact .inl h1
      ·exact absurd h1 h2
      ·exact .inr h1
     ·intro h1
      refine⟨?_,fun hje=>?_⟩
      ·rcases h1 with h1|h1
       ·exact .inl h1
       ·exact .inr (.inr h1)
      ·subst hje
       rcases h1 with h1|h1
       ·exact n4 _ h1 _ (List.mem_cons_self ..) rfl
       ·exact n2 h1
    ·rw[LZ,hput2,u2,hts]
    ·rw[LZ]
     refine u1.map fun f u hf g ht=>?_
     rcases ht with ht|⟨t1,t2⟩
     ·exact .inl ht
     ·refine .inr ⟨t1,?_⟩
      rcases t2 with⟨t2,t3,t4⟩|⟨tb',id,ob,t3,t4,t5,t6⟩
      ·refine .inl ⟨t2,?_,t4.imp id fun t=>t.imp id fun t=>t.imp id fun t=>UU t⟩
       rcases (hap f u hf).load (hlag.quiet hf) hee with q|q|q|⟨q,q'⟩
       ·exact Qk q t3
       ·exfalso
        revert q t2
        cases f.2.1.k <;> simp[DD,Dy]
       ·exact absurd q (hnb f u hf)
       ·rcases t4 with t4|t4|t4|t4
        ·exact Qk t4 t3
        ·rw[t4] at q; cases q
        ·rw[t4] at q'; cases q'
        ·obtain⟨r,r1,r2⟩:=WS hst t4 q
         obtain⟨r',r''⟩:=r
         have:=Mf t2 r1
         simp only at r2 this
         subst r2 this
         exact r1
      ·have hmL:=hsub.subset (List.mem_append_left _ (List.mem_map.2 ⟨(f,u),hf,rfl⟩))
       exact .inr ⟨tb',id,ob,t3,t4,by rw[hN.kept _ (hidc f hmL id t3) (hidne f (.inl (hap f u hf)) id t3) t6]; exact t5,by rw[hN.same _ (hidc f hmL id t3) (hidne f (.inl (hap f u hf)) id t3)]; exact t6⟩
    ·have hmL:=hsub.subset (List.mem_append_right _ hf)
     obtain⟨q1,q2⟩:=hids f (List.mem_cons_of_mem _ hf) id hid
     have hne:=hidne f (.inr (hap2 f hf)) id hid
     exact⟨by rw[hN.same _ (hidc f hmL id hid) hne]; exact q1,by rw[hN.kept _ (hidc f hmL id hid) hne q1]; exact q2⟩
    ·refine At.step (hN.mono fun q _ e'=>?_) hdf hr
     obtain⟨id',_,q2⟩:=Option.map_eq_some_iff.1 e'
     show s<=q
     omega
  have real:∀(R:List DU) (lag:List (DU × AV)) (p:Ik) (tb ts:TS) (st:St) (a:Act) (w:World) (I:Cv) (μ:Mu) (Q:TS × St->Prop) (listed:Array Bool),(∀e R',R=e::R'->IV e.2.1.k=true) ->
   R.length+lag.length<=fuel+1->(lag.map (·.1)++R).Sublist L->listed.size=ops.size->(∀j,j<ops.size->(dG listed j↔j∈(lag.map (·.1)++R).map (·.1)))->Oi ops listed ->
   Ay base w0 I μ st w->st.lo<=s->s+na<=st.c->Il N I μ tb a->DV G.GT I->ts.get=chain tb.get lag->FT s st μ p tb.get lag ->
   (∀e∈R,∀id,Dk e.2.1.k=some id->μ (s+id)=none/\AA st.h (s+id)=none)->(Oj T R fun R=>(CL G.E call s R p ts st).all Q) ->
   (∀a' w',At base w0 N I μ st (s<=·) Q a a' w'->Qx .normal a' w')->wpAny P .any ops Qx (fuel+1) listed a w:=by
   intro R lag p tb ts st a w I μ Q listed heff hfuel hsub hsz hl hcl H hlo hna hF hG hts hlag hids h hQ
   have hnd:((lag.map (·.1)++R).map (·.1)).Nodup:=hD.nodup.sublist (hsub.map _)
   have hpw:=hD.pair.sublist hsub
   refine⟨fun hr=>?_,fun i hi=>?_⟩
   ·cases hE:lag.map (·.1)++R with
    |nil=>
     obtain⟨hL,hR⟩:=List.append_eq_nil_iff.1 hE
     have hL:lag=[]:=by simpa using hL
     subst hR hL
     exact hQ a w ⟨ts,st,I,μ,h.1,H,⟨hF.size,hF.small,fun t ht=>by rw[hts]; exact hF.get t ht⟩,Nx.refl _ _ _ _,rfl⟩
    |cons e rest=>
     have:=UO hD hsz (hE ▸ hsub) (hE ▸ hl)
     rw[hr] at this; cases this
   ·obtain⟨hu,o,ho,hedges⟩:=KD.1 hi
    have hilt:i<ops.size:=(Array.getElem?_eq_some_iff.1 ho).1
    have hm:=(hl i hilt).1 hu
    have hcl':=Qu hcl hi
    have befl:∀j,WC ops j i->Zy listed j:=fun j hb=>gL hcl hb fun o' ho' d hd hb=>by rw[ho] at ho'; cases ho'; exact hedges d hd hb
    have notlis:∀j,j∈(lag.map (·.1)++R).map (·.1)->¬WC ops j i:=fun j hj hb=>by
     have hjl:j<ops.size:=by
      obtain⟨g,hg,rfl⟩:=List.mem_map.1 hj
      obtain⟨o',ho',_⟩:=hD.elem g (hsub.subset hg)
      exact (Array.getElem?_eq_some_iff.1 ho').1
     exact (bB (by rw[hsz]; exact hjl)).1 (befl j hb) ((hl j hjl).2 hj)
    unfold wpOp
    simp only[ho]
    rw[List.map_append,List.mem_append] at hm
    rcases hm with hm|hm
    ·obtain⟨e',he',hie⟩:=List.mem_map.1 hm
     obtain⟨⟨e,v⟩,hmem,rfl⟩:=List.mem_map.1 he'
     simp only at hie
     subst hie
     obtain⟨l1,l2,rfl⟩:=List.append_of_mem hmem
     obtain⟨hl1,hl2⟩:=FT.append.1 hlag
     have hap:∀f u,(f,u)∈l1->GH T ops f e:=fun f u hf=>by
      simp only[List.map_append,List.map_cons,List.append_assoc,List.cons_append] at hpw
      rw[List.pairwise_append] at hpw
      exact hpw.2.2 f (List.mem_map.2 ⟨_,hf,rfl⟩) e (List.mem_cons_self ..)
     have hap2:∀f,(∃u,(f,u)∈l2)∨f∈R->GH T ops e f:=fun f hf=>by
      simp only[List.map_append,List.map_cons,List.append_assoc,List.cons_append] at hpw
      rw[List.pairwise_append,List.pairwise_cons] at hpw
      refine hpw.2.1.1 f (List.mem_append.2 ?_)
      rcases hf with⟨u,hf⟩|hf
      ·exact .inl (List.mem_map.2 ⟨_,hf,rfl⟩)
      ·exact .inr hf
     have hapA:∀f u,(f,u)∈l1->Tv f.2.1 e.2.1:=fun f u hf=>(hap f u hf).apart.resolve_right (notlis _ (List.mem_map.2 ⟨f,List.mem_append_left _ (List.mem_map.2 ⟨(f,u),List.mem_append_left _ hf,rfl⟩),rfl⟩))
     obtain⟨c1,c2⟩:=Lh (o:=e.2.1) l1 tb.get fun f u hf d hd=>((hapA f u hf).1 d hd).1
     have htold:Told s st μ p tb.get e v:=by
      have:=hl2.2.1
      unfold Told at this ⊢
      rw[c1,c2] at this; exact this
     obtain⟨o',ho',hc,_,hidlt⟩:=hD.elem e (hsub.subset (List.mem_append_left _ (List.mem_map.2 ⟨_,hmem,rfl⟩)))
     rw[ho] at ho'; cases ho'
     obtain⟨hd1,hd2⟩:=Ld hc
     refine bI H hF hG hc htold (fun id hid=>by have:=hidlt id hid; omega) _ Qx fun a' w' hr=>?_
     obtain⟨rv,ν,rfl,H',hv,hle,hsame⟩:=hr
     obtain⟨u1,u2⟩:=FT.PR (u:=v) hl1 (d:=e.2.1.dst) fun f u hf x hx=>⟨(hapA f u hf).2 x hx,fun hfx=>((hapA f u hf).1 x hfx).2 hx⟩
     have LZ:=put_eq hF.small tb hd2 v
     have hother:∀f,GH T ops f e∨GH T ops e f->∀id,Dk f.2.1.k=some id->ν (s+id)=μ (s+id):=fun f hf id hid=>hsame _ fun q=>by
      obtain⟨id',q1,q2⟩:=Option.map_eq_some_iff.1 q
      have:id'=id:=by omega
      subst this
      rcases hf with hf|hf
      ·exact hf.ids _ hid q1
      ·exact hf.ids _ q1 hid
     have toldν:∀f,GH T ops f e∨GH T ops e f->∀u g,Told s st μ p g f u->Told s st ν p g f u:=fun f hf u g ht=>by
      rcases ht with ht|⟨t1,t2⟩
      ·exact .inl ht
      ·refine .inr ⟨t1,?_⟩
       rcases t2 with t2|⟨tb',id,ob,t3,t4,t5,t6⟩
       ·exact .inl t2
       ·exact .inr ⟨tb',id,ob,t3,t4,t5,by rw[hother f hf id t3]; exact t6⟩
     have hsl:((l1++l2).map (·.1)++R).Sublist ((l1++(e,v)::l2).map (·.1)++R):=by
      simp only[List.map_append,List.map_cons,List.append_assoc]
      exact List.Sublist.append_left (List.sublist_cons_self _ _) _
     refine IH R (l1++l2) p (put tb e.2.1.dst v) ts st _ w' I ν Q _ (by simp at hfuel ⊢; omega) (hsl.trans hsub) (by simp[hsz]) (fun j hj=>?_) hcl' H' hlo hna ?_ hG ?_ ?_ (fun f hf id hid=>?_) h fun a2 w2 hr=>hQ a2 w2 ?_
     ·rw[Xp (by rw[hsz]; exact hilt),hl j hj]
      simp only[List.map_append,List.map_cons,List.mem_append,List.mem_cons,List.map_map] at hnd ⊢
      rw[List.append_assoc,List.nodup_append,List.cons_append,List.nodup_cons] at hnd
      obtain⟨n1,⟨n2,n3⟩,n4⟩:=hnd
      constructor
      ·rintro⟨h1,h2⟩
       rcases h1 with (h1|h1|h1)|h1
       ·exact .inl (.inl h1)
       ·exact absurd h1 h2
       ·exact .inl (.inr h1)
       ·exact .inr h1
      ·intro h1
       refine⟨?_,fun hje=>?_⟩
       ·rcases h1 with (h1|h1)|h1
        ·exact .inl (.inl h1)
        ·exact .inl (.inr (.inr h1))
        ·exact .inr h1
       ·subst hje
        rcases h1 with (h1|h1)|h1
        ·exact n4 _ h1 _ (List.mem_cons_self ..) rfl
        ·exact n2 (List.mem_append.2 (.inl h1))
        ·exact n2 (List.mem_append.2 (.inr h1))
     ·rw[hd1]
      exact (hF.mono (Cv.le_refl I) hle).put hv hd2
     ·rw[LZ,Kv,u2,hts,Kv]; rfl
     ·rw[LZ]
      refine FT.append.2 ⟨u1.map fun f u hf g ht=>toldν f (.inl (hap f u hf)) u g ht,?_⟩
      rw[u2]
      exact hl2.2.2.map fun f u hf g ht=>toldν f (.inr (hap2 f (.inl ⟨u,hf⟩))) u g ht
     ·rw[hother f (.inr (hap2 f (.inr hf))) id hid]
      exact hids f hf id hid
     ·refine At.step ⟨Cv.le_refl I,hle,fun q _ hq=>hsame q fun e'=>?_,Nat.le_refl _,rfl,fun _ _ _ _=>rfl⟩ (put_defers _ _ _) hr
      obtain⟨id',_,q2⟩:=Option.map_eq_some_iff.1 e'
      exact hq (by show s<=q; omega)
    ·cases R with
     |nil=>cases hm
     |cons e R=>
      have hee:=heff e R rfl
      have hpw2:=hpw
      rw[List.pairwise_append,List.pairwise_cons] at hpw2
      have hnb:∀f u,(f,u)∈lag->¬WC ops f.1 i:=fun f u hf=>notlis _ (List.mem_map.2 ⟨f,List.mem_append_left _ (List.mem_map.2 ⟨(f,u),hf,rfl⟩),rfl⟩)
      by_cases hie:i=e.1
      ·subst hie
       have key:=oD e R lag p tb ts st a w I μ Q listed hee (hsub.subset (List.mem_append_right _ (List.mem_cons_self ..))) (by simp at hfuel; omega) (List.Sublist.trans (List.Sublist.append_left (List.sublist_cons_self _ _) _) hsub) hnd hsz hl hcl H hlo hna hF hG hts hlag hids h.step hQ
        (fun f u hf=>hpw2.2.2 f (List.mem_map.2 ⟨_,hf,rfl⟩) e (List.mem_cons_self ..)) (fun f hf=>hpw2.2.1.1 f hf) hnb hi
       unfold wpOp at key
       simp only[ho] at key
       exact key
      ·rw[List.map_cons,List.mem_cons] at hm
       obtain⟨g,hg,rfl⟩:=List.mem_map.1 (hm.resolve_left hie)
       rcases (hpw2.2.1.1 g hg).oD hee with hb|⟨A,B,hT,hAB⟩
       ·exact absurd hb (notlis e.1 (List.mem_map.2 ⟨e,List.mem_append_right _ (List.mem_cons_self ..),rfl⟩))
       ·obtain⟨hB,hBA,L0,hL⟩:=hD.WM A B hT
        obtain⟨rfl,rfl⟩:=Yc hD.nodup hL hsub hg hAB
        obtain rfl:=List.mem_singleton.1 hg
        have h2:=h.2 [g,e] ⟨e,g,[],hT,rfl,rfl⟩
        obtain⟨g1,g2,g3⟩:=g
        rw[CL,M.all_bind] at h2
        have key:=oD (g1,g2,g3) [e] lag p tb ts st a w I μ Q listed hB (hsub.subset (List.mem_append_right _ (by simp))) (by simp at hfuel ⊢; omega) (List.Sublist.trans (List.Sublist.append_left (by simp) _) hsub) ((List.Perm.nodup_iff (List.Perm.map _ (List.Perm.append_left _ (List.Perm.swap _ _ _)))).1 hnd) hsz (fun j hj=>by
         rw[hl j hj]
         simp only[List.map_append,List.map_cons,List.map_nil,List.mem_append,List.mem_cons,List.not_mem_nil,or_false]
         constructor
         ·rintro (q|q|q)
          ·exact .inl q
          ·exact .inr (.inr q)
          ·exact .inr (.inl q)
         ·rintro (q|q|q)
          ·exact .inl q
          ·exact .inr (.inr q)
          ·exact .inr (.inl q)) hcl H hlo hna hF hG hts hlag (fun f hf=>hids f (by simpa [or_comm] using hf)) (M.Ll h2 fun r hr=>⟨hr,fun R2 hs=>(aN hs).elim⟩) hQ
         (fun f u hf=>hpw2.2.2 f (List.mem_map.2 ⟨_,hf,rfl⟩) _ (by simp)) (fun f hf=>by obtain rfl:=List.mem_singleton.1 hf; exact hBA) hnb hi
        unfold wpOp at key
        simp only[ho] at key
        exact key
  intro R
  induction R with
  |nil=>
   intro lag p tb ts st a w I μ Q listed
   exact real [] lag p tb ts st a w I μ Q listed (fun e R' h=>by cases h)
  |cons e R ihR=>
   intro lag p tb ts st a w I μ Q listed hfuel hsub hsz hl hcl H hlo hna hF hG hts hlag hids h hQ
   cases hee:IV e.2.1.k with
   |true=>exact real (e::R) lag p tb ts st a w I μ Q listed (fun e' R' h=>by cases h; exact hee) hfuel hsub hsz hl hcl H hlo hna hF hG hts hlag hids h hQ
   |false=>
    have hpw:=hD.pair.sublist hsub
    have hap2:∀f∈R,GH T ops e f:=fun f hf=>by
     rw[List.pairwise_append,List.pairwise_cons] at hpw
     exact hpw.2.1.1 f hf
    obtain⟨o,ho,hc,_,hidlt⟩:=hD.elem e (hsub.subset (List.mem_append_right _ (List.mem_cons_self ..)))
    obtain⟨hd1,hd2⟩:=Ld hc
    have hsm:=hF.small
    obtain⟨e1,e2,e3⟩:=e
    obtain⟨v,st',g2,H',hc',hl',hmore,hkept,htold⟩:=fA (e:=(e1,e2,e3)) hee h.step H (fun id hid=>by
     obtain⟨q1,q2⟩:=hids _ (List.mem_cons_self ..) id hid
     exact⟨q1,q2,by have:=hidlt id hid; omega⟩) (fun d hd=>by have:=hd2 d hd; omega) p
    simp only at g2
    obtain⟨_,g2⟩:=Oj.go g2
    ·have hput2:=put_eq hF.small ts hd2 v
     have hlist:(lag++[((e1,e2,e3),v)]).map (·.1)++R=lag.map (·.1)++(e1,e2,e3)::R:=by simp
     refine ihR (lag++[((e1,e2,e3),v)]) (NP e2 e3 ts (put ts e2.dst v) p) tb (put ts e2.dst v) st' a w I μ Q listed (by simp at hfuel ⊢; omega) (by rw[hlist]; exact hsub) hsz (by rw[hlist]; exact hl) hcl H' (by rw[hl']; exact hlo) (by rw[hc']; exact hna) hF hG ?_ ?_ (fun f hf id hid=>?_) g2 fun a2 w2 hr=>hQ a2 w2 ?_
     ·rw[hput2,Kv,hts]; rfl
     ·refine FT.append.2 ⟨hlag.map fun f u hf g ht=>ht.more hmore fun x hx=>UU hx,hee,?_,trivial⟩
      rw[← hts]; exact htold
     ·obtain⟨q1,q2⟩:=hids f (List.mem_cons_of_mem _ hf) id hid
      refine⟨q1,?_⟩
      rw[hkept _ fun q=>?_]
      ·exact q2
      ·obtain⟨id',q3,q4⟩:=Option.map_eq_some_iff.1 q
       have:id'=id:=by omega
       subst this
       exact (hap2 f hf).ids _ q3 hid
     ·refine At.step ⟨Cv.le_refl I,fun _ _ h=>h,fun _ _ _=>rfl,by rw[hc']; exact Nat.le_refl _,hl',fun q _ hq _=>hkept q fun e'=>?_⟩ rfl hr
      obtain⟨id',_,q2⟩:=Option.map_eq_some_iff.1 e'
      exact hq (by show s<=q; omega)
end
end Go.Am
end
section
namespace Go.Am
open Go Go.RowKit
variable {P:Program}
def look (i:Nat):List (Nat × Nat)->Nat
 |[]=>0
 |(j,m)::l=>bif Nat.beq j i then m else look i l
def Mj (acc:List (Nat × Nat)):List Edge->Nat
 |[]=>0
 |d::l=>bif Region.binds .any d then (Mj acc l ||| (2 ^ d.on)) ||| look d.on acc else Mj acc l
def NR (x:Nat):List Nat->Bool
 |[]=>false
 |y::l=>Nat.beq y x||NR x l
theorem KH {x:Nat}{l:List Nat}:NR x l=true↔x∈l:=by
 induction l with
 |nil=>simp[NR]
 |cons y l ih=>
  simp only[NR,Bool.or_eq_true,ih,List.mem_cons,beq_eq,decide_eq_true_eq]
  constructor
  ·rintro (h|h)
   ·exact .inl h.symm
   ·exact .inr h
  ·rintro (h|h)
   ·exact .inl h.symm
   ·exact .inr h
def Tg (x y:Bw):Bool:=
 (match x.dst with|some d=>!NR d (Mk y)&&(match y.dst with|some e=>!Nat.beq e d|none=>true)|none=>true) &&
 (match y.dst with|some d=>!NR d (Mk x)|none=>true)
theorem Sg {x y:Bw}(h:Tg x y=true):Tv x y:=by
 simp only[Tg,Bool.and_eq_true] at h
 obtain⟨h1,h2⟩:=h
 refine⟨fun d hd=>?_,fun d hd=>?_⟩
 ·rw[hd] at h1
  simp only[Bool.and_eq_true,Bool.not_eq_true'] at h1
  refine⟨fun hm=>?_,fun hy=>?_⟩
  ·rw[KH.2 hm] at h1; cases h1.1
  ·rw[hy] at h1; simp at h1
 ·rw[hd] at h2
  simp only[Bool.not_eq_true'] at h2
  intro hm
  rw[KH.2 hm] at h2; cases h2
def jr (a b:AK):Bool:=match Dk a,Dk b with
 |some i,some j=>!Nat.beq i j
 |_,_=>true
theorem fH {a b:AK}(h:jr a b=true):∀id,Dk a=some id->Dk b≠some id:=by
 intro id h1 h2
 unfold jr at h
 rw[h1,h2] at h
 simp at h
def pF (T:Option (DU × DU))(f e:DU):Bool:=match T with
 |none=>false
 |some (A,B)=>(Nat.beq f.1 A.1&&Nat.beq e.1 B.1)||(Nat.beq f.1 B.1&&Nat.beq e.1 A.1)
theorem ib {T:Option (DU × DU)}{f e:DU}(h:pF T f e=true):Tw T f e:=by
 unfold pF at h
 split at h
 ·cases h
 ·rename_i A B
  simp only[beq_eq,Bool.or_eq_true,Bool.and_eq_true,decide_eq_true_eq] at h
  exact⟨A,B,rfl,h⟩
def Xv (T:Option (DU × DU))(ops:Array Oper)(e:DU)(m:Nat)(f:DU):Bool:=
 let b:=m.testBit f.1
 (match ops[f.1]? with|some o=>o.after.toList.all fun d=>!Region.binds .any d||!Nat.beq d.on e.1|none=>true) &&
 (b||(pF T f e&&(Tg f.2.1 e.2.1&&IV f.2.1.k))||(Tg f.2.1 e.2.1&&!IV f.2.1.k&&(!IV e.2.1.k||LY f.2.1.k||DD f.2.1.k||(NR e.1 f.2.2&&f.2.1.dst.isSome)))) &&
 jr f.2.1.k e.2.1.k&&!Nat.beq f.1 e.1
theorem UW {T:Option (DU × DU)}{ops:Array Oper}{e f:DU}{m:Nat}(hm:∀b,m.testBit b=true->WC ops b e.1)(hp:Xv T ops e m f=true):GH T ops f e/\f.1≠e.1:=by
 simp only[Xv,Bool.and_eq_true,Bool.or_eq_true,Bool.not_eq_true'] at hp
 obtain⟨⟨⟨p1,p2⟩,p3⟩,p4⟩:=hp
 refine⟨⟨fun o' ho' d hd hb=>?_,?_,fun he=>?_,fun hf he=>?_,fH p3⟩,fun q=>?_⟩
 ·rw[ho'] at p1
  simp only[List.all_eq_true,Bool.or_eq_true,Bool.not_eq_true'] at p1
  have:=p1 d (by simpa using hd)
  rw[hb] at this
  simp only[Bool.true_eq_false,false_or,beq_eq,decide_eq_false_iff_not] at this
  exact this
 ·rcases p2 with (p2|p2)|p2
  ·exact .inr (hm _ p2)
  ·exact .inl (Sg p2.2.1)
  ·exact .inl (Sg p2.1.1)
 ·rcases p2 with (p2|p2)|p2
  ·exact .inl (hm _ p2)
  ·exact .inr (ib p2.1)
  ·rw[p2.1.2] at he; cases he
 ·rcases p2 with (p2|p2)|⟨_,p2⟩
  ·exact .inr (.inr (.inl (hm _ p2)))
  ·rw[p2.2.2] at hf; cases hf
  ·rcases p2 with ((p2|p2)|p2)|p2
   ·rw[p2] at he; cases he
   ·exact .inl p2
   ·exact .inr (.inl p2)
   ·exact .inr (.inr (.inr ⟨KH.1 p2.1,p2.2⟩))
 ·rw[q] at p4; simp at p4
def VU (T:Option (DU × DU))(P:Program)(X:Nat->Option Ext)(N:Nat)(GT:Nat->Option AV)(ops:Array Oper)(na:Nat):List DU->List (Nat × Nat)->List DU->Bool
 |_,_,[]=>true
 |pre,acc,e::l=>
  (match ops[e.1]? with
  |some o=>
   let m:=Mj acc o.after.toList
   IK P X N GT ops o e.2.1&&(o.after.toList.all fun d=>!Region.binds .any d||(Nat.blt d.on ops.size&&!Nat.beq d.on e.1)) &&
   (match Dk e.2.1.k with|some id=>Nat.blt id na|none=>true)&&pre.all (Xv T ops e m)&&VU T P X N GT ops na (e::pre) ((e.1,m)::acc) l
  |none=>false)
def Np (P:Program)(X:Nat->Option Ext)(N:Nat)(GT:Nat->Option AV)(ops:Array Oper)(na:Nat)(L:List DU):Bool:=
 VU none P X N GT ops na [] [] L&&Nat.beq L.length ops.size&&(List.range ops.size).all fun j=>NR j (L.map (·.1))
def Nn (P:Program)(X:Nat->Option Ext)(N:Nat)(GT:Nat->Option AV)(ops:Array Oper)(na:Nat)(L:List DU)(x y:DU):Bool:=
 VU (some (x,y)) P X N GT ops na [] [] (L++[x,y])&&Nat.beq (L++[x,y]).length ops.size&&((List.range ops.size).all fun j=>NR j ((L++[x,y]).map (·.1)))&&(IV y.2.1.k&&Xv (some (x,y)) ops x 0 y)
theorem bA {i:Nat}{acc:List (Nat × Nat)}{b:Nat}(h:(look i acc).testBit b=true):∃m,(i,m)∈acc/\m.testBit b=true:=by
 induction acc with
 |nil=>simp[look] at h
 |cons x acc ih=>
  obtain⟨j,m⟩:=x
  simp only[look,beq_eq,cond_eq_ite,decide_eq_true_eq] at h
  split at h
  ·rename_i e; subst e; exact⟨m,List.mem_cons_self ..,h⟩
  ·obtain⟨m',h1,h2⟩:=ih h
   exact⟨m',List.mem_cons_of_mem _ h1,h2⟩
theorem OT {ops:Array Oper}{acc:List (Nat × Nat)}(ha:∀j m,(j,m)∈acc->∀b,m.testBit b=true->WC ops b j){i:Nat}{o:Oper}(ho:ops[i]? =some o){b:Nat}:∀{l:List Edge},(∀d∈l,d∈o.after)->(Mj acc l).testBit b=true->WC ops b i
 |[],_,h=>by simp[Mj] at h
 |d::l,hl,h=>by
  simp only[Mj,cond_eq_ite] at h
  split at h
  ·rename_i hb
   simp only[Nat.testBit_or,Bool.or_eq_true] at h
   rcases h with (h|h)|h
   ·exact OT ha ho (fun d hd=>hl d (List.mem_cons_of_mem _ hd)) h
   ·rw[Nat.testBit_two_pow] at h
    have h:d.on=b:=by simpa using h
    subst h
    exact .fw i o d ho (hl d (List.mem_cons_self ..)) hb
   ·obtain⟨m,h1,h2⟩:=bA h
    exact .more b i o d ho (hl d (List.mem_cons_self ..)) hb (ha _ _ h1 b h2)
  ·exact OT ha ho (fun d hd=>hl d (List.mem_cons_of_mem _ hd)) h
theorem Qs {T:Option (DU × DU)}{X:Nat->Option Ext}{N:Nat}{GT:Nat->Option AV}{ops:Array Oper}{na:Nat}:∀(l pre:List DU) (acc:List (Nat × Nat)),(∀j m,(j,m)∈acc->∀b,m.testBit b=true->WC ops b j)->VU T P X N GT ops na pre acc l=true ->
 (∀e∈l,∃o,ops[e.1]? =some o/\IK P X N GT ops o e.2.1=true/\(∀d∈o.after,Region.binds .any d=true->d.on<ops.size/\d.on≠e.1)/\(∀id,Dk e.2.1.k=some id->id<na)) /\
 (∀f∈pre,∀e∈l,GH T ops f e/\f.1≠e.1)/\l.Pairwise fun f e=>GH T ops f e/\f.1≠e.1
 |[],pre,acc,_,_=>⟨by simp,by simp,.nil⟩
 |e::l,pre,acc,ha,h=>by
  simp only[VU] at h
  split at h
  ·rename_i o ho
   simp only[Bool.and_eq_true,List.all_eq_true,Bool.or_eq_true,Bool.not_eq_true'] at h
   obtain⟨⟨⟨⟨h1,h2⟩,h3⟩,h4⟩,h5⟩:=h
   have hm:∀b,(Mj acc o.after.toList).testBit b=true->WC ops b e.1:=fun b hb=>OT ha ho (fun d hd=>by simpa using hd) hb
   obtain⟨g1,g2,g3⟩:=Qs l (e::pre) _ (fun j m hj=>by
    rcases List.mem_cons.1 hj with q|q
    ·cases q; exact hm
    ·exact ha j m q) h5
   refine⟨fun x hx=>?_,fun f hf x hx=>?_,?_⟩
   ·rcases List.mem_cons.1 hx with q|q
    ·subst q
     refine⟨o,ho,h1,fun d hd hb=>?_,fun id hid=>?_⟩
     ·have:=h2 d (by simpa using hd)
      rw[hb] at this
      simp only[Bool.true_eq_false,false_or,blt_eq,decide_eq_true_eq,beq_eq,decide_eq_false_iff_not] at this
      exact this
     ·rw[hid] at h3
      simp only at h3
      rw[blt_eq] at h3
      simpa using h3
    ·exact g1 x q
   ·rcases List.mem_cons.1 hx with q|q
    ·subst q
     exact UW hm (h4 f hf)
    ·exact g2 f (List.mem_cons_of_mem _ hf) x q
   ·exact List.pairwise_cons.2 ⟨fun x hx=>g2 e (List.mem_cons_self ..) x hx,g3⟩
  ·cases h
theorem Xf {X:Nat->Option Ext}{N:Nat}{GT:Nat->Option AV}{ops:Array Oper}{na:Nat}{L:List DU}(h:Np P X N GT ops na L=true):RI none P X N GT ops na L:=by
 simp only[Np,Bool.and_eq_true] at h
 obtain⟨⟨h1,h2⟩,h3⟩:=h
 obtain⟨g1,g2,g3⟩:=Qs L [] [] (fun j m h=>by cases h) h1
 have hnd:(L.map (·.1)).Nodup:=by
  rw[List.Nodup,List.pairwise_map]
  exact g3.imp fun h=>h.2
 exact⟨hnd,fun j hj=>KH.1 (List.all_eq_true.1 h3 j (List.mem_range.2 hj)),g1,g3.imp fun h=>h.1,fun A B h=>by cases h⟩
theorem Xc {X:Nat->Option Ext}{N:Nat}{GT:Nat->Option AV}{ops:Array Oper}{na:Nat}{L:List DU}{x y:DU}(h:Nn P X N GT ops na L x y=true):RI (some (x,y)) P X N GT ops na (L++[x,y]):=by
 simp only[Nn,Bool.and_eq_true] at h
 obtain⟨⟨⟨h1,h2⟩,h3⟩,h4,h5⟩:=h
 obtain⟨g1,g2,g3⟩:=Qs (L++[x,y]) [] [] (fun j m h=>by cases h) h1
 have hnd:((L++[x,y]).map (·.1)).Nodup:=by
  rw[List.Nodup,List.pairwise_map]
  exact g3.imp fun h=>h.2
 refine⟨hnd,fun j hj=>KH.1 (List.all_eq_true.1 h3 j (List.mem_range.2 hj)),g1,g3.imp fun h=>h.1,fun A B h=>?_⟩
 cases h
 exact⟨h4,(UW (fun b hb=>by simp at hb) h5).1,L,rfl⟩
theorem SG {i j:Nat}{a b:Al}(hne:i≠j):∀h:Heap,Aa (Aa h i a) j b=Aa (Aa h j b) i a
 |[]=>rfl
 |(k,x)::h=>by
  by_cases h1:k=i
  ·subst h1
   have h2:Nat.beq k j=false:=by rw[beq_eq]; simpa using hne
   simp[Aa,h2]
  ·have h1':Nat.beq k i=false:=by rw[beq_eq]; simpa using h1
   by_cases h2:k=j
   ·subst h2
    simp[Aa,h1']
   ·have h2':Nat.beq k j=false:=by rw[beq_eq]; simpa using h2
    simp[Aa,h1',h2',SG hne h]
theorem WG {i1 i2 o1 o2:Nat}{a b:List AV}{st st1 st2:St}(hne:i1≠i2)(h1:BI st i1 o1 a=some st1)(h2:BI st1 i2 o2 b=some st2) :
 ∃st1',BI st i2 o2 b=some st1'/\BI st1' i1 o1 a=some st2:=by
 unfold BI at h1
 rw[cond_eq_ite] at h1
 split at h1
 ·cases h1
 rename_i l1
 split at h1
 ·rename_i ty1 sz1 cs1 e1 f1
  rw[cond_eq_ite] at h1
  split at h1
  ·rename_i b1
   cases h1
   unfold BI at h2
   rw[cond_eq_ite] at h2
   split at h2
   ·cases h2
   rename_i l2
   split at h2
   ·rename_i ty2 sz2 cs2 e2 f2
    rw[cond_eq_ite] at h2
    split at h2
    ·rename_i b2
     cases h2
     simp only at f2 l2
     rw[Fa _ _ _ (by rw[f1]; rfl),if_neg hne] at f2
     refine⟨{ st with h:=Aa st.h i2 (.cells ty2 sz2 (BS cs2 o2 b) e2) },?_,?_⟩
     ·unfold BI
      rw[cond_eq_ite,if_neg l2,f2]
      simp only
      rw[cond_eq_ite,if_pos b2]
     ·unfold BI
      rw[cond_eq_ite,if_neg l1]
      simp only
      rw[Fa _ _ _ (by rw[f2]; rfl),if_neg (Ne.symm hne),f1]
      simp only
      rw[cond_eq_ite,if_pos b1,SG (Ne.symm hne)]
    ·cases h2
   ·cases h2
  ·cases h1
 ·cases h1
theorem WR {n1 n2 i1 i2 o1 o2:Nat}{v1 v2 r1 r2:AV}{st st1 st2:St}(hne:i1≠i2)(h1:BJ n1 (.AO i1 o1) v1 st=some (r1,st1))(h2:BJ n2 (.AO i2 o2) v2 st1=some (r2,st2)) :
 ∃st1',BJ n2 (.AO i2 o2) v2 st=some (r2,st1')/\BJ n1 (.AO i1 o1) v1 st1'=some (r1,st2):=by
 unfold BJ at h1 h2 ⊢
 simp only[cond_eq_ite] at h1 h2 ⊢
 split at h1
 ·cases h1
 rename_i c1
 split at h2
 ·cases h2
 rename_i c2
 unfold CO at h1 h2
 split at h1
 ·rename_i s1 w1
  cases h1
  split at h2
  ·rename_i s2 w2
   cases h2
   obtain⟨st1',g1,g2⟩:=WG hne w1 w2
   exact⟨st1',by rw[if_neg c2,g1]; rfl,by rw[if_neg c1,g2]; rfl⟩
  ·cases h2
 ·cases h1
theorem QA {o:Bw}{ts:TS}{i:Nat}(h:Pe o ts=some i):∃n args off v,o=⟨none,none,.store n,args⟩/\Qo ts args=[.AO i off,v]:=by
 obtain⟨d,q,k,args⟩:=o
 unfold Pe at h
 simp only at h
 split at h
 ·cases h
 ·split at h
  ·cases h
  ·split at h
   ·rename_i n
    split at h
    ·rename_i i' off v he
     cases h
     exact⟨n,args,off,v,rfl,he⟩
    ·cases h
   ·cases h
section
variable {E:Env}{call:Nat->List AV->St->M (AV × St)}{s:Nat}
theorem IZ {i n:Nat}{args:List Gl}{a v:AV}{l:List DU}{p:Ik}{ts:TS}{st:St}(h:Qo ts args=[a,v]) :
 CL E call s ((i,⟨none,none,.store n,args⟩,[])::l) p ts st=(M.Bt (BJ n a v st)).bind fun r=>bif Cw s i p r.2 then CL E call s l p ts r.2 else .fail:=by
 have e:Ij E call s ⟨none,none,.store n,args⟩ ts st=(M.Bt (BJ n a v st)).bind fun r=>.ret (ts,r.2):=by
  unfold Ij
  simp only[wanted,cond_true,h]
  rfl
 rw[CL,e]
 cases BJ n a v st <;> rfl
theorem Pv {x y:DU}{Q:TS × St->Prop}:∀(l:List DU) (p:Ik) (ts:TS) (st:St),(Nv E call s x y l p ts st).all Q->Oj (some (x,y)) (l++[x,y]) fun R=>(CL E call s R p ts st).all Q
 |[],p,ts,st,h=>by
  unfold Nv at h
  split at h
  ·rename_i i hi
   split at h
   ·rename_i j hj
    rw[cond_eq_ite] at h
    split at h
    ·rename_i hc
     simp only[Bool.and_eq_true,Bool.not_eq_true',beq_eq,decide_eq_false_iff_not] at hc
     obtain⟨hne,⟨hx,hy⟩,hr⟩:=hc
     refine⟨h,fun R2 hs=>?_⟩
     obtain⟨A,B,R0,hT,hR,rfl⟩:=hs
     cases hT
     have hR0:R0=[]:=by
      have:=congrArg List.length hR
      cases R0 with
      |nil=>rfl
      |cons _ _=>simp at this
     subst hR0
     obtain⟨x1,x2,x3⟩:=x
     obtain⟨y1,y2,y3⟩:=y
     obtain⟨n1,a1,o1,v1,rfl,e1⟩:=QA hi
     obtain⟨n2,a2,o2,v2,rfl,e2⟩:=QA hj
     have hx:x3=[]:=by simpa using hx
     have hy:y3=[]:=by simpa using hy
     subst hx hy
     rw[IZ e1,M.all_bind] at h
     obtain⟨⟨r1,st1⟩,g1,g2⟩:=M.MH h
     have g2:(bif Cw s x1 p st1 then CL E call s [(y1,⟨none,none,.store n2,a2⟩,[])] p ts st1 else .fail).all Q:=g2
     rw[cond_eq_ite] at g2
     split at g2
     ·rw[IZ e2,M.all_bind] at g2
      obtain⟨⟨r2,st2⟩,k1,k2⟩:=M.MH g2
      have k2:(bif Cw s y1 p st2 then CL E call s [] p ts st2 else .fail).all Q:=k2
      rw[cond_eq_ite] at k2
      split at k2
      ·obtain⟨st1',q1,q2⟩:=WR hne g1 k1
       rw[IZ e2,q1] at hr
       show (CL E call s ([]++[_,_]) p ts st).all Q
       rw[List.nil_append,IZ e2,q1]
       have hr:(bif Cw s y1 p st1' then CL E call s [(x1,⟨none,none,.store n1,a1⟩,[])] p ts st1' else .fail).SC=true:=hr
       show M.all Q (bif Cw s y1 p st1' then CL E call s [(x1,⟨none,none,.store n1,a1⟩,[])] p ts st1' else .fail)
       rw[cond_eq_ite] at hr ⊢
       split at hr
       ·rename_i hs1
        rw[if_pos hs1]
        rw[IZ e1,q2] at hr ⊢
        have hr:(bif Cw s x1 p st2 then CL E call s [] p ts st2 else .fail).SC=true:=hr
        show M.all Q (bif Cw s x1 p st2 then CL E call s [] p ts st2 else .fail)
        rw[cond_eq_ite] at hr ⊢
        split at hr
        ·rename_i hs2
         rw[if_pos hs2]
         exact k2
        ·cases hr
       ·cases hr
      ·exact k2.elim
     ·exact g2.elim
    ·exact h.elim
   ·exact h.elim
  ·exact h.elim
 |(i,o,js)::l,p,ts,st,h=>by
  rw[Nv,M.all_bind] at h
  refine⟨?_,fun R2 hs=>?_⟩
  ·show (CL E call s ((i,o,js)::(l++[x,y])) p ts st).all Q
   rw[CL,M.all_bind]
   refine M.Ll h fun r hr=>?_
   cases hst:Cw s i p r.2 with
   |true=>rw[hst] at hr; exact (Pv l _ _ _ hr).1
   |false=>rw[hst] at hr; exact hr.elim
  ·obtain⟨A,B,R0,hT,hR,rfl⟩:=hs
   cases hT
   have hR0:R0=(i,o,js)::l:=(List.append_cancel_right hR).symm
   subst hR0
   show (CL E call s ((i,o,js)::(l++[y,x])) p ts st).all Q
   rw[CL,M.all_bind]
   refine M.Ll h fun r hr=>?_
   cases hst:Cw s i p r.2 with
   |true=>rw[hst] at hr; exact (Pv l _ _ _ hr).2 _ ⟨x,y,l,rfl,rfl,rfl⟩
   |false=>rw[hst] at hr; exact hr.elim
end
section
variable {G:PQ P}{base:Nat}{w0:Start}{I:Cv}{μ:Mu}{st:St}{w:World}{N:Nat}{ts:TS}{a:Act}
theorem VT (hfol:P.follows .mixedOrders=true){call:Nat->List AV->St->M (AV × St)}(hcall:HV P G.GT call){ops:Array Oper}{na:Nat}{L:List DU}{T:Option (DU × DU)}(hD:RI T P G.X N G.GT ops na L)(hlen:L.length=ops.size)(H:Ay base w0 I μ st w)(hlo:st.lo<=st.c)(hF:Il N I μ ts a)(hG:DV G.GT I){Q:TS × St->Prop}(h:Oj T L fun R=>(CL G.E call st.c R [] ts { st with c:=st.c+na }).all Q){Qx:Exit->Act->World->Prop}(hQ:∀a' w',At base w0 N I μ st (fun _=>False) Q a a' w'->Qx .normal a' w')(id:Nat):(Code.region id ops true).wp P Qx a w:=by
 refine wp_region_any hfol ?_
 have H':Ay base w0 I μ { st with c:=st.c+na } w.drew:=(H.more (Nat.le_add_right _ _)).drew
 refine fE (G:=G) (N:=N) hcall hD (s:=st.c) ops.size L [] [] ts ts { st with c:=st.c+na } a w.drew I μ Q _ (by simp[hlen]) (by simp) (by simp) (fun j hj=>?_) ?_ H' hlo (Nat.le_refl _) hF hG rfl trivial (fun e he id hid=>⟨H.VV _ (Nat.le_add_right _ _),?_⟩) h fun a' w' hr=>hQ a' w' ?_
 ·simp only[List.map_nil,List.nil_append]
  refine⟨fun _=>hD.all j hj,fun _=>?_⟩
  simp[dG,hj]
 ·intro i o ho hl
  exfalso
  have hi:=(Array.getElem?_eq_some_iff.1 ho).1
  simp[Zy,hi] at hl
 ·cases hf:AA st.h (st.c+id) with
  |none=>rfl
  |some x=>have:=H.Bc _ _ hf; omega
 ·obtain⟨ts',st',J,ν,h1,h2,h3,h4,h5⟩:=hr
  refine⟨ts',st',J,ν,h1,h2,h3,⟨h4.JZ,h4.le,fun p hp _=>h4.same p (Nat.lt_of_lt_of_le hp (Nat.le_add_right _ _)) (by show ¬st.c<=p; omega),Nat.le_trans (Nat.le_add_right _ _) h4.c,h4.lo,
   fun p hp _ hn=>h4.kept p (Nat.lt_of_lt_of_le hp (Nat.le_add_right _ _)) (by show ¬st.c<=p; omega) hn⟩,h5⟩
theorem bf (hfol:P.follows .mixedOrders=true){call:Nat->List AV->St->M (AV × St)}(hcall:HV P G.GT call){ops:Array Oper}{na:Nat}{L:List DU}(hc:Np P G.X N G.GT ops na L=true)(H:Ay base w0 I μ st w)(hlo:st.lo<=st.c)(hF:Il N I μ ts a)(hG:DV G.GT I){Q:TS × St->Prop}(h:(CL G.E call st.c L [] ts { st with c:=st.c+na }).all Q){Qx:Exit->Act->World->Prop}(hQ:∀a' w',At base w0 N I μ st (fun _=>False) Q a a' w'->Qx .normal a' w')(id:Nat):(Code.region id ops true).wp P Qx a w:=by
 have hlen:L.length=ops.size:=by
  simp only[Np,Bool.and_eq_true] at hc
  exact Nat.eq_of_beq_eq_true hc.1.2
 exact VT hfol hcall (Xf hc) hlen H hlo hF hG ⟨h,fun R2 hs=>by obtain⟨_,_,_,hT,_⟩:=hs; cases hT⟩ hQ id
theorem dY (hfol:P.follows .mixedOrders=true){call:Nat->List AV->St->M (AV × St)}(hcall:HV P G.GT call){ops:Array Oper}{na:Nat}{L:List DU}{x y:DU}(hc:Nn P G.X N G.GT ops na L x y=true)(H:Ay base w0 I μ st w)(hlo:st.lo<=st.c)(hF:Il N I μ ts a)(hG:DV G.GT I){Q:TS × St->Prop}(h:(Nv G.E call st.c x y L [] ts { st with c:=st.c+na }).all Q){Qx:Exit->Act->World->Prop}(hQ:∀a' w',At base w0 N I μ st (fun _=>False) Q a a' w'->Qx .normal a' w')(id:Nat):(Code.region id ops true).wp P Qx a w:=by
 have hlen:(L++[x,y]).length=ops.size:=by
  simp only[Nn,Bool.and_eq_true] at hc
  exact Nat.eq_of_beq_eq_true hc.1.1.2
 exact VT hfol hcall (Xc hc) hlen H hlo hF hG (Pv L _ _ _ h) hQ id
end
end Go.Am
end
section
namespace Go.Am
open Go Go.RowKit
variable {P:Program}
def DF (P:Program)(X:Nat->Option Ext)(N:Nat)(GT:Nat->Option AV):AQ->Code->Bool
 |.skip,c=>(match c with|.skip=>true|_=>false)
 |.region na l,c=>(match c with|.region _ ops false=>Oc P X N GT ops na l|_=>false)
 |.draw na L,c=>(match c with|.region _ ops true=>Np P X N GT ops na L|_=>false)
 |.WM na L x y,c=>(match c with|.region _ ops true=>Nn P X N GT ops na L x y|_=>false)
 |.seq a b,c=>(match c with|.seq x y=>DF P X N GT a x&&DF P X N GT b y|_=>false)
 |.cond o a b,c=>(match c with|.cond v x y=>Ta N GT v o&&(DF P X N GT a x&&DF P X N GT b y)|_=>false)
 |.block id a,c=>(match c with|.block i x=>Nat.beq i id&&DF P X N GT a x|_=>false)
 |.loop a,c=>(match c with|.loop x=>DF P X N GT a x|_=>false)
 |.exit id,c=>(match c with|.exit i=>Nat.beq i id|_=>false)
 |.ret,c=>(match c with|.ret=>true|_=>false)
 |.bad,_=>true
def WN:Jl->Exit
 |.normal=>.normal
 |.exit i=>.exit i
 |.ret=>.ret
section
variable {G:PQ P}{base:Nat}{w0:Start}{N:Nat}
theorem At.imp {S:Nat->Prop}{I:Cv}{μ:Mu}{st:St}{Q R:TS × St->Prop}{a a':Act}{w':World}(h:At base w0 N I μ st S Q a a' w')(hq:∀r,Q r->R r):At base w0 N I μ st S R a a' w':=by
 obtain⟨ts',st',J,ν,h1,h2⟩:=h
 exact⟨ts',st',J,ν,hq _ h1,h2⟩
theorem gD (hfol:P.follows .mixedOrders=true){call:Nat->List AV->St->M (AV × St)}(hcall:HV P G.GT call):∀(ac:AQ) (c:Code) (st:St) (ts:TS) (a:Act) (w:World) (I:Cv) (μ:Mu) (Q:Jl × TS × St->Prop) (Qx:Exit->Act->World->Prop),
 DF P G.X N G.GT ac c=true->Ay base w0 I μ st w->st.lo<=st.c->Il N I μ ts a->DV G.GT I->(BF G.E call ac ts st).all Q ->
 (∀ae a' w',At base w0 N I μ st (fun _=>False) (fun r=>Q (ae,r)) a a' w'->Qx (WN ae) a' w')->c.wp P Qx a w:=by
 intro ac
 induction ac with
 |skip=>
  intro c st ts a w I μ Q Qx hc H hlo hF hG h hQ
  cases c <;> simp[DF] at hc
  exact wp_skip (hQ .normal a w ⟨ts,st,I,μ,h,H,hF,Nx.refl _ _ _ _,rfl⟩)
 |region na l=>
  intro c st ts a w I μ Q Qx hc H hlo hF hG h hQ
  simp only[DF] at hc
  split at hc
  ·rename_i id ops
   rw[BF,M.all_bind] at h
   exact Yu hcall hc H hlo hF hG h (fun a' w' hr=>hQ .normal a' w' hr) id
  ·cases hc
 |draw na L=>
  intro c st ts a w I μ Q Qx hc H hlo hF hG h hQ
  simp only[DF] at hc
  split at hc
  ·rename_i id ops
   rw[BF,M.all_bind] at h
   exact bf hfol hcall hc H hlo hF hG h (fun a' w' hr=>hQ .normal a' w' hr) id
  ·cases hc
 |WM na L x y=>
  intro c st ts a w I μ Q Qx hc H hlo hF hG h hQ
  simp only[DF] at hc
  split at hc
  ·rename_i id ops
   rw[BF,M.all_bind] at h
   exact dY hfol hcall hc H hlo hF hG h (fun a' w' hr=>hQ .normal a' w' hr) id
  ·cases hc
 |seq x y ihx ihy=>
  intro c st ts a w I μ Q Qx hc H hlo hF hG h hQ
  simp only[DF] at hc
  split at hc
  ·rw[Bool.and_eq_true] at hc
   rw[BF,M.all_bind] at h
   refine wp_seq (ihx _ st ts a w I μ _ _ hc.1 H hlo hF hG h fun ae a' w' hr=>?_)
   cases ae with
   |normal=>
    obtain⟨ts',st',J,ν,h1,h2,h3,h4,h5⟩:=hr
    exact ihy _ st' ts' a' w' J ν Q Qx hc.2 h2 (by rw[h4.lo]; exact Nat.le_trans hlo h4.c) h3 (hG.mono h4.JZ) h1 fun ae a2 w2 hr=>hQ ae a2 w2 (At.step h4 h5 hr)
   |exit i=>exact hQ (.exit i) a' w' hr
   |ret=>exact hQ .ret a' w' hr
  ·cases hc
 |cond o x y ihx ihy=>
  intro c st ts a w I μ Q Qx hc H hlo hF hG h hQ
  simp only[DF] at hc
  split at hc
  ·rename_i v cx cy
   simp only[Bool.and_eq_true] at hc
   have hv:=SV hF hG hc.1
   rw[BF] at h
   generalize ev ts o=u at h hv
   split at h
   ·rename_i t
    have:a.eval v=.bool t:=by
     generalize a.eval v=rv at hv
     cases hv; rfl
    refine wp_cond this ?_
    rw[cond_eq_ite] at h
    split
    ·rename_i ht
     rw[if_pos ht] at h
     exact ihx _ st ts a w I μ Q Qx hc.2.1 H hlo hF hG h hQ
    ·rename_i ht
     rw[if_neg ht] at h
     exact ihy _ st ts a w I μ Q Qx hc.2.2 H hlo hF hG h hQ
   ·exact h.elim
  ·cases hc
 |block id x ih=>
  intro c st ts a w I μ Q Qx hc H hlo hF hG h hQ
  simp only[DF] at hc
  split at hc
  ·rw[Bool.and_eq_true] at hc
   have:=Nat.eq_of_beq_eq_true hc.1
   subst this
   rw[BF,M.all_bind] at h
   refine wp_block (ih _ st ts a w I μ _ _ hc.2 H hlo hF hG h fun ae a' w' hr=>?_)
   cases ae with
   |normal=>exact hQ .normal a' w' hr
   |exit i=>
    rename_i id' _
    simp only[WN,Exit.inBlock]
    split
    ·rename_i e
     subst e
     refine hQ .normal a' w' (hr.imp fun r hr=>?_)
     simp only[M.all,beq_eq,decide_true,cond_true] at hr
     exact hr
    ·rename_i e
     refine hQ (.exit i) a' w' (hr.imp fun r hr=>?_)
     simp only[M.all,beq_eq,e,decide_false,cond_false] at hr
     exact hr
   |ret=>exact hQ .ret a' w' hr
  ·cases hc
 |loop x ih=>
  intro c st ts a w I μ Q Qx hc H hlo hF hG h hQ
  simp only[DF] at hc
  split at hc
  ·rename_i cx
   rw[BF] at h
   have key:∀n st ts a w I μ,Ay base w0 I μ st w->st.lo<=st.c->Il N I μ ts a->DV G.GT I->(Dh (BF G.E call x) n ts st).all Q ->
    (∀ae a' w',At base w0 N I μ st (fun _=>False) (fun r=>Q (ae,r)) a a' w'->Qx (WN ae) a' w')->Code.rounds P cx Qx n a w:=by
    intro n
    induction n with
    |zero=>intro st ts a w I μ H hlo hF hG h hQ; exact h.elim
    |succ n ihn=>
     intro st ts a w I μ H hlo hF hG h hQ
     rw[rounds_succ]
     rw[Dh,M.all_bind] at h
     refine ih _ st ts a w I μ _ _ hc H hlo hF hG h fun ae a' w' hr=>?_
     cases ae with
     |normal=>
      obtain⟨ts',st',J,ν,h1,h2,h3,h4,h5⟩:=hr
      exact ihn st' ts' a' w' J ν h2 (by rw[h4.lo]; exact Nat.le_trans hlo h4.c) h3 (hG.mono h4.JZ) h1 fun ae a2 w2 hr=>hQ ae a2 w2 (At.step h4 h5 hr)
     |exit i=>exact hQ (.exit i) a' w' hr
     |ret=>exact hQ .ret a' w' hr
   exact wp_loop_rounds _ (key _ st ts a w I μ H hlo hF hG h hQ)
  ·cases hc
 |exit id=>
  intro c st ts a w I μ Q Qx hc H hlo hF hG h hQ
  simp only[DF] at hc
  split at hc
  ·have:=Nat.eq_of_beq_eq_true hc
   subst this
   exact wp_exit (hQ (.exit _) a w ⟨ts,st,I,μ,h,H,hF,Nx.refl _ _ _ _,rfl⟩)
  ·cases hc
 |ret=>
  intro c st ts a w I μ Q Qx hc H hlo hF hG h hQ
  simp only[DF] at hc
  split at hc
  ·exact wp_ret (hQ .ret a w ⟨ts,st,I,μ,h,H,hF,Nx.refl _ _ _ _,rfl⟩)
  ·cases hc
 |bad=>
  intro c st ts a w I μ Q Qx hc H hlo hF hG h hQ
  exact h.elim
end
end Go.Am
end
section
namespace Go.Am
open Go Go.RowKit
variable {P:Program}
def IA (P:Program)(N:Nat):List ResultVar->List Vy->Bool
 |[],[]=>true
 |.tmp t::l,.tmp u::m=>Nat.beq t u&&Nat.blt t N&&IA P N l m
 |.cell a t::l,.cell b agg::m=>Nat.beq a b&&Nat.blt a N&&Rm P t agg&&IA P N l m
 |_,_=>false
def QJ (tmps:Array Value):ResultVar->Sem Value
 |.tmp t=>pure (tmps.getD t undef)
 |.cell a t=>do loadVar t (← asAddr (tmps.getD a undef))
def Kl (tmps:Array Value):List ResultVar->Sem (List Value)
 |[]=>pure []
 |r::l=>do
  let v ← QJ tmps r
  let vs ← Kl tmps l
  pure (v::vs)
section
variable {base:Nat}{w0:Start}{I:Cv}{μ:Mu}{st:St}{w:World}{N:Nat}{ts:TS}{a:Act}
theorem Kk (H:Ay base w0 I μ st w)(hF:Il N I μ ts a):∀{l:List ResultVar} {m:List Vy} {vs:List AV},IA P N l m=true->AR st.h ts m=some vs->∃rvs,(Kl a.tmps l).run P w=.ok rvs w/\Ah I μ vs rvs
 |[],[],vs,hc,h=>by cases h; exact⟨[],rfl,.nil⟩
 |[],_::_,vs,hc,h=>by simp[IA] at hc
 |.tmp t::l,[],vs,hc,h=>by simp[IA] at hc
 |.cell t u::l,[],vs,hc,h=>by simp[IA] at hc
 |.tmp t::l,.cell u g::m,vs,hc,h=>by simp[IA] at hc
 |.cell t g::l,.tmp u::m,vs,hc,h=>by simp[IA] at hc
 |.tmp t::l,.tmp u::m,vs,hc,h=>by
  simp only[IA,Bool.and_eq_true] at hc
  have:=Nat.eq_of_beq_eq_true hc.1.1
  subst this
  have hb:=hc.1.2
  rw[blt_eq] at hb
  have hb:t<N:=by simpa using hb
  simp only[AR,UM] at h
  split at h
  ·rename_i vs' hv
   cases h
   obtain⟨rvs,h1,h2⟩:=Kk H hF hc.2 hv
   exact⟨a.eval (.tmp t)::rvs,by simp only[Kl,QJ,Sem.run_bind,Sem.run_pure,h1,Result.andThen_ok]; rfl,.cons _ _ _ _ (hF.get t hb) h2⟩
  ·cases h
 |.cell b t::l,.cell c agg::m,vs,hc,h=>by
  simp only[IA,Bool.and_eq_true] at hc
  have:=Nat.eq_of_beq_eq_true hc.1.1.1
  subst this
  have hb:=hc.1.1.2
  rw[blt_eq] at hb
  have hb:b<N:=by simpa using hb
  simp only[AR,UM] at h
  split at h
  ·rename_i v hv
   split at h
   ·rename_i vs' hvs
    cases h
    obtain⟨rvs,h1,h2⟩:=Kk H hF hc.2 hvs
    have hp:=hF.get b hb
    obtain⟨rv,h3,h4⟩:=Xx (P:=P) H hc.1.2 hp hv
    refine⟨rv::rvs,?_,.cons _ _ _ _ h4 h2⟩
    have h5:(QJ a.tmps (.cell b t)).run P w=.ok rv w:=by
     have e1:a.eval (.tmp b)=a.tmps.getD b undef:=rfl
     rw[e1] at h3 hp
     simp only[QJ]
     generalize a.tmps.getD b undef=rp at h3 hp
     generalize ts.get b=up at hp hv
     have:∃ad,rp=.pointer (some ad):=by
      cases agg with
      |some n=>
       simp only[GU,Option.map_eq_some_iff] at hv
       obtain⟨cs,q,_⟩:=hv
       cases hp <;> simp[Ac] at q <;> exact⟨_,rfl⟩
      |none=>
       simp only[GU] at hv
       cases hp <;> simp[AP] at hv <;> exact⟨_,rfl⟩
     obtain⟨ad,rfl⟩:=this
     simp only[Instr.loadAt,Instr.sureAddr,Sem.run_bind,Sem.run_pure,Result.andThen_ok] at h3
     simp only[asAddr,Sem.run_bind,Sem.run_pure,Result.andThen_ok,h3]
    simp only[Kl,Sem.run_bind,h5,h1,Result.andThen_ok,Sem.run_pure]
   ·cases h
  ·cases h
theorem Rz (f:ResultVar->Sem Value)(tmps:Array Value)(hf:∀r,f r=QJ tmps r):∀(l:List ResultVar),l.mapM f=Kl tmps l
 |[]=>rfl
 |r::l=>by rw[List.mapM_cons,Rz f tmps hf l,hf]; rfl
theorem Ot (fn:Func)(tmps:Array Value)(w:World):(Go.results fn tmps).run P w=((Kl tmps fn.results.toList).run P w).andThen fun vs w=>.ok (match vs with|[v]=>v|l=>.tuple l.toArray) w:=by
 unfold Go.results
 rw[Array.mapM_eq_mapM_toList,Rz _ tmps (fun r=>by cases r <;> rfl)]
 simp only[Sem.run_bind,bind_pure_comp,Sem.run_map]
 cases (Kl tmps fn.results.toList).run P w with
 |halt x w'=>rfl
 |ok vs w'=>
  simp only[Result.andThen_ok,Sem.run_pure]
  congr 1
  match vs with
  |[]=>rfl
  |[v]=>rfl
  |_::_::_=>simp
theorem bG (H:Ay base w0 I μ st w)(hF:Il N I μ ts a){fn:Func}{rs:List Vy}(hc:IA P N fn.results.toList rs=true){v:AV}(h:results rs st.h ts=some v):∃rv,(Go.results fn a.tmps).run P w=.ok rv w/\Ae I μ v rv:=by
 unfold results at h
 split at h
 ·rename_i v' hv
  cases h
  obtain⟨rvs,h1,h2⟩:=Kk (P:=P) H hF hc hv
  obtain⟨rv,rfl,h3⟩:=h2.one
  exact⟨rv,by rw[Ot,h1]; rfl,h3⟩
 ·rename_i l hne hv
  cases h
  obtain⟨rvs,h1,h2⟩:=Kk (P:=P) H hF hc hv
  refine⟨.tuple rvs.toArray,?_,.tuple _ _ h2⟩
  rw[Ot,h1]
  have hl:=h2.length
  match rvs,l,hl with
  |[v],[u],_=>exact absurd rfl (hne u)
  |[],_,_=>rfl
  |_::_::_,_,_=>rfl
 ·cases h
theorem QP:∀(l:List AV) (i:Nat) (t:TS) (j:Nat),i+l.length<2 ^ 15->(TS.Cm l i t).get j=if i<=j/\j<i+l.length then l.getD (j-i) .undef else t.get j
 |[],i,t,j,_=>by simp[TS.Cm]; omega
 |v::l,i,t,j,h=>by
  simp only[List.length_cons] at h
  rw[TS.Cm,QP l (i+1) _ j (by omega),TS.Pk _ _ _ _ (by omega)]
  by_cases h1:i=j
  ·subst h1
   rw[if_neg (by omega),if_pos rfl,if_pos (by simp)]
   simp
  ·by_cases h2:i+1<=j/\j<i+1+l.length
   ·rw[if_pos h2,if_pos (by simp; omega)]
    have:j-i=(j-(i+1))+1:=by omega
    rw[this,List.getD_cons_succ]
   ·rw[if_neg h2,if_neg h1,if_neg (by simp; omega)]
theorem aS {args:List AV}{rargs:List Value}(ha:Ah I μ args rargs)(hN:N<2 ^ 14)(hl:args.length<2 ^ 14) :
 Il N I μ (TS.Cm args 0 .nil) { tmps:=rargs.toArray++Array.replicate (N-rargs.toArray.size) undef,defers:=[] }:=by
 have hlen:=ha.length
 refine⟨by simp; omega,by omega,fun t ht=>?_⟩
 rw[QP _ _ _ _ (by omega)]
 simp only[Act.eval,Array.getD_eq_getD_getElem?]
 by_cases h:t<args.length
 ·rw[if_pos (by omega)]
  have h1:args[t]? =some args[t]:=List.getElem?_eq_getElem h
  obtain⟨rv,g1,g2⟩:=ha.get t _ h1
  have h2:(rargs.toArray++Array.replicate (N-rargs.toArray.size) undef)[t]? =some rv:=by
   rw[Array.getElem?_append_left (by simp; omega)]; simpa using g1
  rw[h2]
  simp only[Nat.sub_zero,List.getD_eq_getElem?_getD,h1,Option.getD_some]
  exact g2
 ·rw[if_neg (by omega)]
  have h2:(rargs.toArray++Array.replicate (N-rargs.toArray.size) undef)[t]?.getD undef=undef:=by
   rw[Array.getElem?_append_right (by simp; omega)]
   cases hx:(Array.replicate (N-rargs.toArray.size) undef)[t-rargs.toArray.size]? with
   |none=>rfl
   |some x=>
    have:=Array.mem_of_getElem? hx
    simp at this
    simp[this]
  rw[h2]
  exact .tuple [] [] .nil
end
end Go.Am
end
section
namespace Go.Am
open Go Go.RowKit
variable {P:Program}
def Kg (ν:Mu)(c:Nat)(h:Heap)(r:Nat):Prop:=∃o x pl,c<=o/\AA h o=some x/\ν o=some pl/\pl.r=r
open Classical in
 noncomputable def NA (J:Cv)(ν:Mu)(c:Nat)(h:Heap)(w:World):Cv where
 cell r off:=if Kg ν c h r then w.cell? ⟨r,off,none⟩ else J.cell r off
 map r:=if Kg ν c h r then w.heap[r]? else J.map r
section
variable {base:Nat}{w0:Start}{J K:Cv}{ν μ:Mu}{st:St}{w:World}{c:Nat}
theorem TM (H:Ay base w0 J ν st w):J.le (NA J ν c st.h w):=by
 refine⟨fun r off v h=>?_,fun r x h=>?_⟩
 ·simp only[NA]
  split
  ·exact H.JZ r off v h
  ·exact h
 ·simp only[NA]
  split
  ·exact H.Dj r x h
  ·exact h
theorem Ua {l m:List AV}:AV.Cx c (l++m)=(AV.Cx c l&&AV.Cx c m):=by
 induction l with
 |nil=>simp[AV.Cx]
 |cons x l ih=>simp[AV.Cx,ih,Bool.and_assoc]
theorem Ws {xs:List AV}(h:AV.Cx c xs=true):AV.Cx c (xs.flatMap AV.cells)=true:=by
 induction xs with
 |nil=>rfl
 |cons x xs ih=>
  simp only[AV.Cx,Bool.and_eq_true] at h
  rw[List.flatMap_cons,Ua,Bool.and_eq_true]
  refine⟨?_,ih h.2⟩
  cases x <;> first
   |(simp only[AV.cells,AV.Cx,Bool.and_true]; exact h.1)
   |(simp only[AV.cells]; have:=h.1; simp only[AV.CF] at this; exact this)
 mutual
theorem TB (hμ:∀o pl,o<c->ν o=some pl->μ o=some pl) (hI:J.le K):∀{v:AV} {rv:Value},Ae J ν v rv->AV.CF c v=true->Ae K μ v rv
 |_,_,.bool b,_=>.bool b
 |_,_,.int k n,_=>.int k n
 |_,_,.str l,_=>.str l
 |_,_,.Ba,_=>.Ba
 |_,_,.AO o off pl h,ho=>.AO o off pl (hμ _ _ (by simp only[AV.CF,blt_eq,decide_eq_true_eq] at ho; exact ho) h)
 |_,_,.BN cs r off rvs h h1 t,ho=>.BN cs r off rvs (fun i hi=>hI.1 _ _ _ (h i hi)) h1 (Dp hμ hI t (by simp only[AV.CF] at ho; exact ho))
 |_,_,.AB,_=>.AB
 |_,_,.list tight sz xs r off cap rvs h h1 hs t hc ht,ho=>.list tight sz xs r off cap rvs (fun i hi=>hI.1 _ _ _ (h i hi)) h1 hs (Dp hμ hI t (Ws (by simp only[AV.CF] at ho; exact ho))) hc ht
 |_,_,.AU o off len cap pl a rcap h hz ha hl hc,ho=>.AU o off len cap pl a rcap (hμ _ _ (by simp only[AV.CF,blt_eq,decide_eq_true_eq] at ho; exact ho) h) hz ha hl hc
 |_,_,.De,_=>.De
 |_,_,.Cq o pl h,ho=>.Cq o pl (hμ _ _ (by simp only[AV.CF,blt_eq,decide_eq_true_eq] at ho; exact ho) h)
 |_,_,.Gs ks vs r es clock h hk hv,ho=>by
  simp only[AV.CF,Bool.and_eq_true] at ho
  exact .Gs ks vs r es clock (hI.2 _ _ h) (Dp hμ hI hk ho.1) (Dp hμ hI hv ho.2)
 |_,_,.fn f a b ra rb ha hb,ho=>by
  simp only[AV.CF,Bool.and_eq_true] at ho
  exact .fn f a b ra rb (Dp hμ hI ha ho.1) (Dp hμ hI hb ho.2)
 |_,_,.Ih,_=>.Ih
 |_,_,.iface t v rv h,ho=>.iface t v rv (TB hμ hI h (by simp only[AV.CF] at ho; exact ho))
 |_,_,.Cs,_=>.Cs
 |_,_,.agg cs rvs h h1,ho=>.agg cs rvs (Dp hμ hI h (by simp only[AV.CF] at ho; exact ho)) h1
 |_,_,.tuple cs rvs h,ho=>.tuple cs rvs (Dp hμ hI h (by simp only[AV.CF] at ho; exact ho))
theorem Dp (hμ:∀o pl,o<c->ν o=some pl->μ o=some pl) (hI:J.le K):∀{l:List AV} {rl:List Value},Ah J ν l rl->AV.Cx c l=true->Ah K μ l rl
 |_,_,.nil,_=>.nil
 |_,_,.cons v rv l rl h t,ho=>by
  simp only[AV.Cx,Bool.and_eq_true] at ho
  exact .cons v rv l rl (TB hμ hI h ho.1) (Dp hμ hI t ho.2)
end
theorem Dm {f:AV->Option AV}(hf:∀v v' rv,f v=some v'->Ae J ν v rv->Ae K μ v' rv):∀{l l':List AV} {rl:List Value},CU f l=some l'->Ah J ν l rl->Ah K μ l' rl
 |[],l',rl,h,hv=>by cases h; cases hv; exact .nil
 |v::l,l',rl,h,hv=>by
  simp only[CU] at h
  split at h
  ·rename_i v' h1
   split at h
   ·rename_i l2 h2
    cases h
    cases hv with
    |cons _ rv _ rl hv ht=>exact .cons _ _ _ _ (hf v v' rv h1 hv) (Dm hf h2 ht)
   ·cases h
  ·cases h
theorem NG {f:AV->Option AV}:∀{l l':List AV},CU f l=some l'->l'.length=l.length
 |[],l',h=>by cases h; rfl
 |v::l,l',h=>by
  simp only[CU] at h
  split at h
  ·split at h
   ·rename_i h2; cases h; simp[NG h2]
   ·cases h
  ·cases h
theorem Sa {v:AV}{rv:Value}(h:Ae K μ v rv)(h1:rv.oneCell'=true):v.cells=[v]:=by
 cases h <;> first|rfl|(simp[Value.oneCell'] at h1)
theorem Ol {f:AV->Option AV}(hf:∀v v' rv,f v=some v'->Ae J ν v rv->Ae K μ v' rv)(hagg:∀cs x,f (.agg cs)=some x->∃cs',x=.agg cs'):∀{xs xs':List AV} {rl:List Value},CU f xs=some xs'->Ah J ν (xs.flatMap AV.cells) rl->One rl ->
 Ah K μ (xs'.flatMap AV.cells) rl/\xs'.map (fun x=>x.cells.length)=xs.map (fun x=>x.cells.length)
 |[],xs',rl,h,hv,_=>by cases h; cases hv; exact⟨.nil,rfl⟩
 |x::xs,xs',rl,h,hv,h1=>by
  simp only[CU] at h
  split at h
  ·rename_i x' hx
   split at h
   ·rename_i xs2 hxs
    cases h
    rw[List.flatMap_cons] at hv
    obtain⟨g1,g2⟩:=hv.split
    obtain⟨i1,i2⟩:=Ol hf hagg hxs g2 (h1.drop _)
    have key:Ah K μ x'.cells (rl.take x.cells.length)/\x'.cells.length=x.cells.length:=by
     have hone:=h1.take x.cells.length
     by_cases hx2:∃cs,x=.agg cs
     ·obtain⟨cs,rfl⟩:=hx2
      obtain⟨cs',rfl⟩:=hagg cs x' hx
      have hr:=hf _ _ _ hx (.agg cs _ g1 hone)
      generalize hq:(Value.agg (rl.take (AV.agg cs).cells.length).toArray)=q at hr
      cases hr with
      |agg _ rvs hv' _=>
       have:rvs=rl.take (AV.agg cs).cells.length:=by
        injection hq with hq
        have:=congrArg Array.toList hq
        simpa using this.symm
       subst this
       exact⟨hv',by have e1:=hv'.length; have e2:=g1.length; show cs'.length=_; rw[e1]; exact e2.symm⟩
     ·have hc:x.cells=[x]:=by
       cases x <;> first|rfl|exact absurd ⟨_,rfl⟩ hx2
      rw[hc] at g1 hone ⊢
      obtain⟨r,hr,hxr⟩:=g1.one
      rw[hr] at hone ⊢
      have h2:=hf x x' r hx hxr
      have h3:=Sa h2 (hone r (by simp))
      rw[h3]
      exact⟨.cons _ _ _ _ h2 .nil,rfl⟩
    refine⟨?_,by simp only[List.map_cons,key.2,i2]⟩
    rw[List.flatMap_cons]
    have:=key.1.append i1
    rwa [List.take_append_drop] at this
   ·cases h
  ·cases h
theorem Xr {sz:Nat}(hsz:0<sz):∀(n:Nat) (cs:List AV),cs.length=n*sz->(∀x∈cs,x.cells=[x])->(rows sz n cs).flatMap AV.cells=cs/\(rows sz n cs).length=n/\∀x∈rows sz n cs,x.cells.length=sz
 |0,cs,h,_=>by
  have:cs=[]:=List.eq_nil_of_length_eq_zero (by simpa using h)
  subst this
  exact⟨rfl,rfl,by simp[rows]⟩
 |n+1,cs,h,h1=>by
  have hlen:(cs.drop sz).length=n*sz:=by rw[List.length_drop,h,Nat.add_mul]; omega
  obtain⟨e1,e2,e3⟩:=Xr hsz n (cs.drop sz) hlen fun x hx=>h1 x (List.mem_of_mem_drop hx)
  have htake:(cs.take sz).length=sz:=by rw[List.length_take,h,Nat.add_mul]; omega
  have hfirst:(bif Nat.beq sz 1 then cs.headD .undef else .agg (cs.take sz)).cells=cs.take sz:=by
   rw[beq_eq,cond_eq_ite]
   by_cases hs:sz=1
   ·subst hs
    simp only[decide_true,if_true]
    cases cs with
    |nil=>simp at htake
    |cons x cs=>simp[h1 x (by simp)]
   ·simp only[hs,decide_false,Bool.false_eq_true,if_false]
    rfl
  refine⟨?_,by simp[rows,e2],fun x hx=>?_⟩
  ·rw[rows,List.flatMap_cons,hfirst,e1,List.take_append_drop]
  ·rw[rows,List.mem_cons] at hx
   rcases hx with hx|hx
   ·rw[hx,hfirst,htake]
   ·exact e3 x hx
end
end Go.Am
end
section
namespace Go.Am
open Go Go.RowKit
variable {P:Program}
section
variable {base:Nat}{w0:Start}{J:Cv}{ν μ:Mu}{st:St}{w:World}{c:Nat}
theorem aK {c:Nat}{h:Heap}{n:Nat}{cs:List AV}{x:AV}(hx:Cf c h n (.agg cs)=some x):∃cs',x=.agg cs':=by
 cases n with
 |zero=>simp[Cf] at hx
 |succ n=>
  simp only[Cf,cond_eq_ite] at hx
  split at hx
  ·cases hx; exact⟨_,rfl⟩
  ·split at hx
   ·cases hx; exact⟨_,rfl⟩
   ·cases hx
theorem Uf {o:Nat}{x:Al}{pl:Pl}(ho:c<=o)(hf:AA st.h o=some x)(hp:ν o=some pl)(i:Nat):(NA J ν c st.h w).cell pl.r i=w.cell? ⟨pl.r,i,none⟩:=by
 simp only[NA]
 rw[if_pos ⟨o,x,pl,ho,hf,hp,rfl⟩]
theorem eP {o:Nat}{x:Al}{pl:Pl}(ho:c<=o)(hf:AA st.h o=some x)(hp:ν o=some pl){es:Array MapEntry}{cl:Nat}(hw:w.heap[pl.r]? =some (.map es cl)):(NA J ν c st.h w).map pl.r=some (.map es cl):=by
 simp only[NA]
 rw[if_pos ⟨o,x,pl,ho,hf,hp,rfl⟩,hw]
theorem Sm (H:Ay base w0 J ν st w)(hμ:∀o pl,o<c->ν o=some pl->μ o=some pl):∀(n:Nat) (v v':AV) (rv:Value),Cf c st.h n v=some v'->Ae J ν v rv->Ae (NA J ν c st.h w) μ v' rv:=by
 intro n
 induction n with
 |zero=>intro v v' rv h; simp[Cf] at h
 |succ n ih=>
  intro v v' rv h hv
  have hI:=TM (c:=c) H
  simp only[Cf,cond_eq_ite] at h
  split at h
  ·rename_i ho
   cases h
   exact TB hμ hI hv ho
  ·rename_i hnew
   cases hv with
   |AO o off pl hp=>
    simp only[AV.CF,blt_eq,decide_eq_true_eq] at hnew
    simp only at h
    split at h
    ·rename_i ty sz cs ext hf
     rw[ble_eq] at h
     split at h
     ·rename_i hle
      simp only[decide_eq_true_eq] at hle
      split at h
      ·rename_i cs' hcs
       cases h
       obtain⟨pl',cc,fz,rvs,q1,hplsz,hn,he,hw,hbb,hfz,hvr,hone,hcc⟩:=H.cells hf hp
       rw[hp] at q1; cases q1
       refine .BN cs' pl.r (pl.b+off) (rvs.drop off) (fun i hi=>?_) (hone.drop _) (Dm ih hcs (hvr.drop off))
       simp only[List.length_drop] at hi
       rw[Uf (by omega) hf hp,Cb hw,Nat.add_assoc,hcc (off+i) (by omega)]
       simp
      ·cases h
     ·cases h
    ·cases h
   |AU o off len cap pl a rcap hp hz ha hl hc=>
    simp only[AV.CF,blt_eq,decide_eq_true_eq] at hnew
    simp only at h
    split at h
    ·rename_i ty sz cs ext hf
     rw[blt_eq,ble_eq] at h
     split at h
     ·rename_i hle
      simp only[Bool.and_eq_true,decide_eq_true_eq] at hle
      split at h
      ·rename_i cs' hcs
       cases h
       obtain⟨pl',cc,fz,rvs,q1,hplsz,hn,he,hw,hbb,hfz,hvr,hone,hcc⟩:=H.cells hf hp
       rw[hp] at q1; cases q1
       have hr:=Dm ih hcs ((hvr.drop off).take (len*sz))
       have hone':One ((rvs.drop off).take (len*sz)):=(hone.drop off).take _
       have hlr:=hvr.length
       have hlen:cs'.length=len*sz:=by
        rw[hr.length]; simp only[List.length_take,List.length_drop]; omega
       have hcell:∀x∈cs',x.cells=[x]:=fun x hx=>by
        obtain⟨i,hi⟩:=List.getElem?_of_mem hx
        obtain⟨rx,h1,h2⟩:=hr.get i x hi
        exact Sa h2 (hone' rx (List.mem_of_getElem? h1))
       obtain⟨r1,r2,r3⟩:=Xr hle.1 len cs' hlen hcell
       have fin:∀tt:Bool,(tt=true->rcap=len)->Ae (NA J ν c st.h w) μ (.list tt sz (rows sz len cs')) (.slice (some a) len rcap):=by
        intro tt hcap
        have hcap':tt=true->rcap=(rows sz len cs').length:=by rw[r2]; exact hcap
        by_cases hpos:0<rcap
        ·rw[ha.2 hpos]
         have:=Ae.list (I:=NA J ν c st.h w) (μ:=μ) tt sz (rows sz len cs') pl.r (pl.b+off) rcap ((rvs.drop off).take (len*sz)) (fun i hi=>by
          simp only[List.length_take,List.length_drop] at hi
          rw[Uf (by omega) hf hp,Cb hw,Nat.add_assoc,hcc (off+i) (by omega)]
          simp) hone' r3 (by rw[r1]; exact hr) (by rw[r2]; exact hl) hcap'
         rw[r2] at this
         exact this
        ·have h0:len=0:=by omega
         subst h0
         obtain⟨ab,ao,asp⟩:=a
         have hsp:=ha.1
         simp only at hsp
         subst hsp
         exact Ae.list (I:=NA J ν c st.h w) (μ:=μ) tt sz (rows sz 0 cs') ab ao rcap [] (fun i hi=>by simp at hi) (fun v hv=>by cases hv) r3 (by simp only[rows,List.flatMap_nil]; exact .nil) (by rw[r2]; exact hl) hcap'
       refine fin _ fun q=>?_
       cases cap with
       |none=>cases q
       |some k=>
        have q:=Nat.eq_of_beq_eq_true q
        obtain⟨s1,s2⟩:=hc
        omega
      ·cases h
     ·cases h
    ·cases h
   |Cq o pl hp=>
    simp only[AV.CF,blt_eq,decide_eq_true_eq] at hnew
    simp only at h
    split at h
    ·rename_i ks vs bs clock hf
     obtain⟨pl',es,q1,_,_,_,hw,hks,hvs,_,_,_⟩:=H.maps hf hp
     rw[hp] at q1; cases q1
     split at h
     ·rename_i ks' hk
      split at h
      ·rename_i vs' hvv
       cases h
       exact .Gs ks' vs' pl.r es clock (eP (by omega) hf hp hw) (Dm ih hk hks) (Dm ih hvv hvs)
      ·cases h
     ·cases h
    ·cases h
   |BN cs r off rvs hc h1 t=>
    simp only at h
    split at h
    ·rename_i cs' hcs
     cases h
     exact .BN cs' r off rvs (fun i hi=>hI.1 _ _ _ (hc i hi)) h1 (Dm ih hcs t)
    ·cases h
   |list tight sz xs r off cap rvs hc h1 hs t hcap ht=>
    simp only at h
    split at h
    ·rename_i xs' hxs
     cases h
     obtain⟨g1,g2⟩:=Ol ih (fun cs x hx=>aK hx) hxs t h1
     have hl:=NG hxs
     have:=Ae.list (I:=NA J ν c st.h w) (μ:=μ) tight sz xs' r off cap rvs (fun i hi=>hI.1 _ _ _ (hc i hi)) h1 (fun x hx=>by
      have hm:x.cells.length∈xs'.map (fun x=>x.cells.length):=List.mem_map.2 ⟨x,hx,rfl⟩
      rw[g2] at hm
      obtain⟨y,hy,hye⟩:=List.mem_map.1 hm
      rw[← hye]; exact hs y hy) g1 (by omega) (fun q=>by rw[hl]; exact ht q)
     rw[hl] at this
     exact this
    ·cases h
   |Gs ks vs r es clock hm hk hv'=>
    simp only at h
    split at h
    ·rename_i ks' h1
     split at h
     ·rename_i vs' h2
      cases h
      exact .Gs ks' vs' r es clock (hI.2 _ _ hm) (Dm ih h1 hk) (Dm ih h2 hv')
     ·cases h
    ·cases h
   |fn f a b ra rb ha hb=>
    simp only at h
    split at h
    ·rename_i a' h1
     split at h
     ·rename_i b' h2
      cases h
      exact .fn f a' b' ra rb (Dm ih h1 ha) (Dm ih h2 hb)
     ·cases h
    ·cases h
   |iface t u ru hu=>
    simp only at h
    split at h
    ·rename_i u' h1
     cases h
     exact .iface t u' ru (ih u u' ru h1 hu)
    ·cases h
   |agg cs rvs hcs h1=>
    simp only at h
    split at h
    ·rename_i cs' h2
     cases h
     exact .agg cs' rvs (Dm ih h2 hcs) h1
    ·cases h
   |tuple cs rvs hcs=>
    simp only at h
    split at h
    ·rename_i cs' h2
     cases h
     exact .tuple cs' rvs (Dm ih h2 hcs)
    ·cases h
   |_=>simp at h
end
end Go.Am
end
section
namespace Go.Am
open Go Go.RowKit
variable {P:Program}
structure dM (P:Program)(X:Nat->Option Ext)(GT:Nat->Option AV)(f:Nat)(fn:Aq):Prop where
 ok:∃rf c,P.funcs[f]? =some rf/\rf.body=some c/\(rf.name == "runtime.NumGoroutine")=false/\DF P X rf.ntmps GT fn.body c=true/\IA P rf.ntmps rf.results.toList fn.results=true/\rf.ntmps<2 ^ 14
def ME (P:Program)(GT:Nat->Option AV)(f:Nat)(g:Heap->List AV->Option AV):Prop:=
 ∀(args:List AV) (v:AV) (st:St),g st.h args=some v->∀(base:Nat) (w0:Start) (I:Cv) (μ:Mu) (w:World) (rargs:List Value),DV GT I->Ay base w0 I μ st w->Ah I μ args rargs ->
  (∀W,(callFunc f rargs.toArray).run P W=.ok (.enter f rargs.toArray) W)/\Calls P f rargs.toArray w fun e w'=>∃rv K,e=.returned rv/\Ae K μ v rv/\Ay base w0 K μ st w'/\I.le K
structure Sound (G:PQ P):Prop where
 pK:P.follows .mixedOrders=true
 code:∀f fn,G.E.code f=some fn->dM P G.X G.GT f fn
 Qh:∀f g,G.E.Qh f=some g->ME P G.GT f g
section
variable {G:PQ P}{base:Nat}{w0:Start}{I J K:Cv}{μ ν:Mu}{st:St}{w w':World}
theorem JF {f:Nat}{rf:Func}{c:Code}(hf:P.funcs[f]? =some rf)(hb:rf.body=some c)(hn:(rf.name == "runtime.NumGoroutine")=false)(args:Array Value)(W:World):(callFunc f args).run P W=.ok (.enter f args) W:=by
 have h1:rf.name ≠ "runtime.NumGoroutine":=by simpa using hn
 simp[callFunc,hf,h1,hb,Result.andThen]
theorem Ay.grown (H:Ay base w0 I μ st w)(hb:Below w.heap.size w w'):Ay base w0 I μ st w':=by
 have hblk:∀r,r<w.heap.size->w'.heap[r]? =w.heap[r]?:=fun r hr=>hb.block r hr
 refine⟨H.below.trans (hb.mono H.Tx),Nat.le_trans H.Tx hb.size,fun r off v h=>?_,fun r es h=>?_,H.VV,fun o ob pl h hp=>?_,H.lo,H.sep,H.MI,H.HZ,H.Bc,H.OY⟩
 ·have:=H.JZ r off v h
  rw[World.cell?_of_block (w:=w) (hblk r (World.block_lt_of_cell? _ _ this))]; exact this
 ·have:=H.Dj r es h
  rw[hblk r (JU this)]; exact this
 ·have:=H.obj o ob pl h hp
  exact this.world (hblk _ this.lt)
theorem Ay.fresh (H:Ay base w0 I μ st w)(arr:Array Value)(ty:TypeId):∃K,Ay base w0 K μ st (w.alloc (.cells arr ty))/\I.le K/\∀i (hi:i<arr.size),K.cell w.heap.size i=some arr[i]:=by
 have hb:Below w.heap.size w (w.alloc (.cells arr ty)):=(Below.refl _ w).alloc (Nat.le_refl _) _
 have G:=H.grown hb
 have hnew:∀off,(w.alloc (.cells arr ty)).cell? ⟨w.heap.size,off,none⟩=arr[off]?:=fun off=>by
  exact World.cell?_alloc_new w arr ty off
 have hno:∀off v,I.cell w.heap.size off=some v->False:=fun off v h=>by
  have:=World.block_lt_of_cell? _ _ (H.JZ _ _ _ h)
  simp at this
 obtain⟨K,hc,hm⟩:∃K:Cv,(∀r off,K.cell r off=if r=w.heap.size then arr[off]? else I.cell r off)/\K.map=I.map:=⟨⟨fun r off=>if r=w.heap.size then arr[off]? else I.cell r off,I.map⟩,fun _ _=>rfl,rfl⟩
 have hle:I.le K:=⟨fun r off v h=>by
  rw[hc]; split
  ·rename_i e; subst e; exact (hno _ _ h).elim
  ·exact h,fun r x h=>by rw[hm]; exact h⟩
 refine⟨K,⟨G.below,G.Tx,fun r off v h=>?_,fun r es h=>G.Dj r es (by rw[hm] at h; exact h),G.VV,fun o ob pl h hp=>(G.obj o ob pl h hp).mono hle (fun _ _ h=>h),G.lo,G.sep,fun o x pl i h1 h2 h3 h4=>?_,fun o x pl h1 h2=>by rw[hm]; exact G.HZ o x pl h1 h2,G.Bc,fun r hr=>?_⟩,hle,fun i hi=>?_⟩
 ·rw[hc] at h
  split at h
  ·rename_i e; subst e; rw[hnew]; exact h
  ·exact G.JZ r off v h
 ·rw[hc,if_neg (Nat.ne_of_lt (H.obj o x pl h1 h2).lt)]
  exact G.MI o x pl i h1 h2 h3 h4
 ·obtain⟨g1,g2⟩:=G.OY r hr
  refine⟨fun off=>?_,by rw[hm]; exact g2⟩
  rw[hc,if_neg (by have:=H.Tx; omega)]; exact g1 off
 ·rw[hc,if_pos rfl]; simp[hi]
theorem MG (hS:Sound G){call:Nat->List AV->St->M (AV × St)}(hcall:HV P G.GT call){f:Nat}{fn:Aq}(hf:dM P G.X G.GT f fn){args:List AV}{Q:AV × St->Prop}(h:(Ct G.E call fn args st).all Q)(H:Ay base w0 I μ st w)(hlo:st.lo<=st.c)(hG:DV G.GT I){rargs:List Value}(ha:Ah I μ args rargs):(∀W,(callFunc f rargs.toArray).run P W=.ok (.enter f rargs.toArray) W) /\
 Calls P f rargs.toArray w fun e w'=>∃rv v st' J ν,e=.returned rv/\Q (v,st')/\Ay base w0 J ν st' w'/\Ae J ν v rv/\Nx I μ st (fun _=>False) J ν st':=by
 obtain⟨rf,c,hf1,hf2,hf3,hf4,hf5,hf6⟩:=hf.ok
 refine⟨fun W=>JF hf1 hf2 hf3 _ W,?_⟩
 unfold Ct at h
 rw[ble_eq,cond_eq_ite] at h
 split at h
 ·rename_i hle
  simp only[decide_eq_true_eq] at hle
  rw[M.all_bind] at h
  have hF:=aS ha hf6 (by omega)
  refine calls_of_wp hf1 hf2 (gD hS.pK hcall fn.body c st _ _ w I μ _ _ hf4 H hlo hF hG h fun ae a' w' hr=>?_)
  obtain⟨ts',st',J,ν,h1,h2,h3,h4,h5⟩:=hr
  have key:∀v,results fn.results st'.h ts'=some v->Q (v,st')->a'.defers=[]/\∃rv,(Go.results rf a'.tmps).run P w'=.ok rv w'/\∃rv' v st' J ν,Ending.returned rv=.returned rv'/\Q (v,st')/\Ay base w0 J ν st' w'/\Ae J ν v rv'/\Nx I μ st (fun _=>False) J ν st':=by
   intro v hv hq
   obtain⟨rv,g1,g2⟩:=bG (P:=P) h2 h3 hf5 hv
   exact⟨h5,rv,g1,rv,v,st',J,ν,rfl,hq,h2,g2,h4⟩
  unfold leave at h1
  cases ae with
  |normal=>
   simp only at h1
   split at h1
   ·rename_i v hv; exact key v hv h1
   ·exact h1.elim
  |exit i=>exact h1.elim
  |ret=>
   simp only at h1
   split at h1
   ·rename_i v hv; exact key v hv h1
   ·exact h1.elim
 ·exact h.elim
theorem Sz {v:AV}{rv:Value}{st':St}{c:Nat}{v':AV}(H:Ay base w0 I μ st w)(Hb:Ay w.heap.size ⟨w,I⟩ J ν st' w')(hIJ:I.le J)(hv:Ae J ν v rv)(ht:Cf c st'.h CV v=some v')(hsame:∀o pl,o<c->ν o=some pl->μ o=some pl)(hlo:st'.lo<=c):∃K,Ay base w0 K μ st w'/\Ae K μ v' rv/\I.le K:=by
 have Hg:=H.grown (w':=w') Hb.below
 have hle:=TM (c:=c) Hb
 have hIK:=Cv.le_trans hIJ hle
 have hnewb:∀r,Kg ν c st'.h r->w.heap.size<=r:=fun r ⟨o,x,pl,h1,h2,h3,h4⟩=>by rw[← h4]; exact Hb.lo o x pl h2 h3 (Nat.le_trans hlo h1)
 have hold:∀r,r<w.heap.size->(∀off,(NA J ν c st'.h w').cell r off=I.cell r off)/\(NA J ν c st'.h w').map r=I.map r:=fun r hr=>by
  obtain⟨g1,g2⟩:=Hb.OY r hr
  have hn:¬Kg ν c st'.h r:=fun hn=>by have:=hnewb r hn; omega
  refine⟨fun off=>?_,?_⟩
  ·simp only[NA,if_neg hn]; exact g1 off
  ·simp only[NA,if_neg hn]; exact g2
 refine⟨NA J ν c st'.h w',⟨Hg.below,Hg.Tx,fun r off u h=>?_,fun r es h=>?_,Hg.VV,fun o ob pl h hp=>(Hg.obj o ob pl h hp).mono hIK (fun _ _ h=>h),Hg.lo,Hg.sep,fun o x pl i h1 h2 h3 h4=>?_,fun o x pl h1 h2=>?_,Hg.Bc,fun r hr=>?_⟩,Sm Hb hsame _ _ _ _ ht hv,hIK⟩
 ·simp only[NA] at h
  split at h
  ·exact h
  ·exact Hb.JZ r off u h
 ·simp only[NA] at h
  split at h
  ·exact h
  ·exact Hb.Dj r es h
 ·rw[(hold _ (H.obj o x pl h1 h2).lt).1 i]; exact H.MI o x pl i h1 h2 h3 h4
 ·rw[(hold _ (H.obj o x pl h1 h2).lt).2]; exact H.HZ o x pl h1 h2
 ·obtain⟨g1,g2⟩:=hold r (Nat.lt_of_lt_of_le hr H.Tx)
  obtain⟨k1,k2⟩:=H.OY r hr
  exact⟨fun off=>(g1 off).trans (k1 off),g2.trans k2⟩
end
end Go.Am
end
section
namespace Go.Am
open Go Go.RowKit
variable {P:Program}
section
variable {G:PQ P}{base:Nat}{w0:Start}{I J K:Cv}{μ ν:Mu}{st:St}{w w':World}
theorem Hw {c:Nat}:∀{h:Heap} {p:Nat},p<c->AA (Gh c h) p=AA h p
 |[],p,_=>rfl
 |(i,x)::h,p,hp=>by
  simp only[Gh,ble_eq,cond_eq_ite,decide_eq_true_eq]
  split
  ·rw[Hw hp,AJ,if_neg (by omega)]
  ·rw[AJ,AJ,Hw hp]
theorem Qi {c:Nat}:∀{h:Heap} {p:Nat} {x:Al},holds c h=true->AA h p=some x->p<c/\Al.CF c x=true
 |[],p,x,_,h=>by simp[AA] at h
 |(i,y)::h,p,x,hh,hf=>by
  simp only[holds,Bool.and_eq_true,blt_eq,decide_eq_true_eq] at hh
  rw[AJ] at hf
  split at hf
  ·rename_i e; cases hf; subst e; exact hh.1
  ·exact Qi hh.2 hf
theorem ag {c:Nat}{pl:Pl}{ob:Al}(hμ:∀o pl,o<c->ν o=some pl->μ o=some pl)(hI:J.le K)(h:Ke J ν w pl ob)(ho:Al.CF c ob=true):Ke K μ w pl ob:=by
 cases h with
 |cells ty sz cs ext cc fz rvs hsz hn he hw hb hf h h1 hc=>exact .cells ty sz cs ext cc fz rvs hsz hn he hw hb hf (Dp hμ hI h ho) h1 hc
 |map ks vs bs clock es hb hn he hw hk hv hbs hs hc=>
  simp only[Al.CF,Bool.and_eq_true] at ho
  exact .map ks vs bs clock es hb hn he hw (Dp hμ hI hk ho.1) (Dp hμ hI hv ho.2) hbs hs hc
 |Gu since seen stepped hb hn he hw=>exact .Gu since seen stepped hb hn he hw
 |iter o pm since seen stepped hb hn he hm hw=>
  simp only[Al.CF,blt_eq,decide_eq_true_eq] at ho
  exact .iter o pm since seen stepped hb hn he (hμ _ _ ho hm) hw
def MX (ν:Mu)(c:Nat):Mu:=fun o=>if o<c then ν o else none
theorem jF {c:Nat}{v v':AV}{rv:Value}(H:Ay base w0 J ν st w)(hv:Ae J ν v rv)(ht:Cf c st.h CV v=some v')(hh:holds c (Gh c st.h)=true)(hlo:st.lo<=c) :
 ∃K,Ay base w0 K (MX ν c) { st with h:=Gh c st.h,c:=c } w/\Ae K (MX ν c) v' rv/\J.le K:=by
 have hle:=TM (c:=c) H
 have hμ:∀o pl,o<c->ν o=some pl->MX ν c o=some pl:=fun o pl h1 h2=>by simp[MX,h1,h2]
 have hcut:∀o pl,MX ν c o=some pl->ν o=some pl:=fun o pl h=>by
  unfold MX at h; split at h
  ·exact h
  ·cases h
 have hfd:∀o x,AA (Gh c st.h) o=some x->o<c/\AA st.h o=some x/\Al.CF c x=true:=fun o x h=>by
  obtain⟨h1,h2⟩:=Qi hh h
  exact⟨h1,by rw[← Hw h1]; exact h,h2⟩
 have hnb:∀o x pl,o<c->AA st.h o=some x->ν o=some pl->¬Kg ν c st.h pl.r:=fun o x pl h1 h2 h3 ⟨o',x',pl',g1,g2,g3,g4⟩=>H.sep o' o x' x pl' pl g2 h2 g3 h3 (by omega) g4
 refine⟨NA J ν c st.h w,⟨H.below,H.Tx,fun r off u h=>?_,fun r es h=>?_,fun o ho=>?_,fun o ob pl h hp=>?_,fun o ob pl h hp=>?_,fun o p x y pl pm h1 h2 h3 h4=>?_,fun o x pl i h1 h2 h3 h4=>?_,fun o x pl h1 h2=>?_,fun o x h=>(hfd o x h).1,fun r hr=>?_⟩,Sm H hμ _ _ _ _ ht hv,hle⟩
 ·simp only[NA] at h
  split at h
  ·exact h
  ·exact H.JZ r off u h
 ·simp only[NA] at h
  split at h
  ·exact h
  ·exact H.Dj r es h
 ·simp only at ho
  simp only[MX]
  rw[if_neg (by omega)]
 ·obtain⟨h1,h2,h3⟩:=hfd o ob h
  exact ag hμ hle (H.obj o ob pl h2 (hcut o pl hp)) h3
 ·exact H.lo o ob pl (hfd o ob h).2.1 (hcut o pl hp)
 ·exact H.sep o p x y pl pm (hfd o x h1).2.1 (hfd p y h2).2.1 (hcut _ _ h3) (hcut _ _ h4)
 ·obtain⟨g1,g2,_⟩:=hfd o x h1
  simp only[NA,if_neg (hnb o x pl g1 g2 (hcut _ _ h2))]
  exact H.MI o x pl i g2 (hcut _ _ h2) h3 h4
 ·obtain⟨g1,g2,_⟩:=hfd o x h1
  simp only[NA,if_neg (hnb o x pl g1 g2 (hcut _ _ h2))]
  exact H.HZ o x pl g2 (hcut _ _ h2)
 ·have hn:¬Kg ν c st.h r:=fun⟨o,x,pl,g1,g2,g3,g4⟩=>by
   have:=H.lo o x pl g2 g3 (Nat.le_trans hlo g1)
   omega
  simp only[NA,if_neg hn]
  exact H.OY r hr
theorem Vs {α:Type}{f:α->Bool}:∀{m:M α},m.Tk f=true->m.all fun a=>f a=true
 |.ret a,h=>h
 |.fail,h=>by cases h
 |.ask n k,h=>fun i hi=>Vs (List.all_eq_true.1 h i (List.mem_range.2 (by omega)))
theorem YQ {α:Type}{Q R:α->Prop}:∀{m:M α},m.all Q->m.all R->m.all fun a=>Q a/\R a
 |.ret a,h,k=>⟨h,k⟩
 |.fail,h,_=>h
 |.ask n k,h,h'=>fun i hi=>YQ (h i hi) (h' i hi)
theorem NU {c:Nat}{st:St}{f:AV × St->Bool}:∀{m:M (AV × St)},(m.bind (Bn c st)).Tk f=true->(m.bind (Bn c st)).all fun r=>r.2=st
 |.ret r,h=>by
  simp only[M.bind,Bn] at h ⊢
  split
  ·rfl
  ·rename_i e; rw[e] at h; cases h
 |.fail,h=>by cases h
 |.ask n k,h=>fun i hi=>NU (List.all_eq_true.1 h i (List.mem_range.2 (by omega)))
theorem RS {c:Nat}{st:St}{m:M (AV × St)}{Q:AV × St->Prop}(h:(JC st (m.bind (Bn c st))).all Q):(m.bind (Bn c st)).all Q:=by
 unfold JC at h
 split at h
 ·rename_i r hr
  rw[cond_eq_ite] at h
  split at h
  ·rename_i hb
   refine M.Ll (YQ (Vs hb) (NU hb)) fun r' h'=>?_
   have:=AV.beq_eq h'.1
   have e:r'=(r.1,st):=by rw[this,← h'.2]
   rw[e]; exact h
  ·exact h.elim
 ·exact h.elim
 mutual
theorem Ru:∀{v:AV} {rv:Value},Ae J ν v rv->v.plain=true->Ae I μ v rv
 |_,_,.bool b,_=>.bool b
 |_,_,.int k n,_=>.int k n
 |_,_,.str l,_=>.str l
 |_,_,.agg cs rvs h h1,hp=>.agg cs rvs (Mg h (by simpa [AV.plain] using hp)) h1
 |_,_,.tuple cs rvs h,hp=>.tuple cs rvs (Mg h (by simpa [AV.plain] using hp))
theorem Mg:∀{l:List AV} {rl:List Value},Ah J ν l rl->AV.QL l=true->Ah I μ l rl
 |_,_,.nil,_=>.nil
 |_,_,.cons v rv l rl h t,hp=>by
  simp only[AV.QL,Bool.and_eq_true] at hp
  exact .cons v rv l rl (Ru h hp.1) (Mg t hp.2)
end
theorem dF (hS:Sound G):∀n,HV P G.GT (AX G.E n):=by
 intro n
 induction n with
 |zero=>intro f args st Q h; exact h.elim
 |succ n ih=>
  intro f args st Q h base w0 I μ w rargs H hlo hG ha
  unfold AX at h
  split at h
  ·rename_i g hg
   split at h
   ·rename_i v hv
    obtain⟨h1,h2⟩:=hS.Qh f g hg args v st hv base w0 I μ w rargs hG H ha
    refine⟨h1,Calls.mono h2 fun e w' hr=>?_⟩
    obtain⟨rv,K,e1,e2,e3,e4⟩:=hr
    exact⟨rv,v,st,K,μ,e1,h,e3,e2,e4,fun _ _ h=>h,fun _ _ _=>rfl,Nat.le_refl _,rfl,fun _ _ _ _=>rfl⟩
   ·exact h.elim
  ·split at h
   ·exact h.elim
   ·rename_i fn hfn
    have hF:=hS.code f fn hfn
    split at h
    ·exact MG hS ih hF h H hlo hG ha
    ·rw[M.all_bind] at h
     obtain⟨h1,h2⟩:=MG hS ih hF h H hlo hG ha
     refine⟨h1,Calls.mono h2 fun e w' hr=>?_⟩
     obtain⟨rv,v,st',J,ν,e1,e2,e3,e4,e5⟩:=hr
     unfold GK at e2
     split at e2
     ·rename_i v' hv'
      rw[cond_eq_ite] at e2
      split at e2
      ·rename_i hh
       obtain⟨K,k1,k2,k3⟩:=jF e3 e4 hv' hh (by rw[e5.lo]; exact hlo)
       refine⟨rv,v',_,K,MX ν st.c,e1,e2,k1,k2,Cv.le_trans e5.JZ k3,fun p pl hp=>?_,fun p hp _=>?_,Nat.le_refl _,e5.lo,fun p hp hs hn=>?_⟩
       ·have hpc:p<st.c:=by
         rcases Nat.lt_or_ge p st.c with h|h
         ·exact h
         ·rw[H.VV p h] at hp; cases hp
        simp only[MX,hpc,if_true]
        exact e5.le p pl hp
       ·simp only[MX,hp,if_true]
        exact e5.same p hp (fun h=>h)
       ·show AA (Gh st.c st'.h) p=_
        rw[Hw hp]
        exact e5.kept p hp (fun h=>h) hn
      ·exact e2.elim
     ·exact e2.elim
    ·rw[M.all_bind] at h
     have H':Ay w.heap.size ⟨w,I⟩ I μ { st with lo:=st.c } w:=
      ⟨Below.refl _ _,Nat.le_refl _,H.JZ,H.Dj,H.VV,H.obj,fun o x pl h1 h2 h3=>absurd (H.Bc o x h1) (by simp only at h3; omega),H.sep,H.MI,H.HZ,H.Bc,fun r _=>⟨fun _=>rfl,rfl⟩⟩
     obtain⟨h1,h2⟩:=MG hS ih hF h H' (Nat.le_refl _) hG ha
     refine⟨h1,Calls.mono h2 fun e w' hr=>?_⟩
     obtain⟨rv,v,st',J,ν,e1,e2,e3,e4,e5⟩:=hr
     unfold Bn at e2
     split at e2
     ·rename_i v' hv'
      obtain⟨K,k1,k2,k3⟩:=Sz H e3 e5.JZ e4 hv' (fun o pl ho hp=>by rw[← e5.same o ho (fun h=>h)]; exact hp) (by rw[e5.lo]; exact Nat.le_refl _)
      exact⟨rv,v',st,K,μ,e1,e2,k1,k2,k3,fun _ _ h=>h,fun _ _ _=>rfl,Nat.le_refl _,rfl,fun _ _ _ _=>rfl⟩
     ·exact e2.elim
    ·have h:=RS h
     rw[M.all_bind] at h
     have H':Ay w.heap.size ⟨w,I⟩ I μ { st with lo:=st.c } w:=
      ⟨Below.refl _ _,Nat.le_refl _,H.JZ,H.Dj,H.VV,H.obj,fun o x pl h1 h2 h3=>absurd (H.Bc o x h1) (by simp only at h3; omega),H.sep,H.MI,H.HZ,H.Bc,fun r _=>⟨fun _=>rfl,rfl⟩⟩
     obtain⟨h1,h2⟩:=MG hS ih hF h H' (Nat.le_refl _) hG ha
     refine⟨h1,Calls.mono h2 fun e w' hr=>?_⟩
     obtain⟨rv,v,st',J,ν,e1,e2,e3,e4,e5⟩:=hr
     unfold Bn at e2
     split at e2
     ·rename_i v' hv'
      obtain⟨K,k1,k2,k3⟩:=Sz H e3 e5.JZ e4 hv' (fun o pl ho hp=>by rw[← e5.same o ho (fun h=>h)]; exact hp) (by rw[e5.lo]; exact Nat.le_refl _)
      exact⟨rv,v',st,K,μ,e1,e2,k1,k2,k3,fun _ _ h=>h,fun _ _ _=>rfl,Nat.le_refl _,rfl,fun _ _ _ _=>rfl⟩
     ·exact e2.elim
    ·rw[cond_eq_ite] at h
     split at h
     ·rename_i hold
      rw[M.all_bind] at h
      have H':Ay w.heap.size ⟨w,I⟩ I (fun _=>none) ⟨[],0,0⟩ w:=
       ⟨Below.refl _ _,Nat.le_refl _,H.JZ,H.Dj,fun _ _=>rfl,fun o x pl h1=>(by cases h1),fun o x pl h1=>(by cases h1),fun o p x y pl pm h1=>(by cases h1),fun o x pl i h1=>(by cases h1),fun o x pl h1=>(by cases h1),fun o x h1=>(by cases h1),fun r _=>⟨fun _=>rfl,rfl⟩⟩
      obtain⟨h1,h2⟩:=MG hS ih hF h H' (Nat.le_refl _) hG (Dp (c:=0) (fun o pl ho _=>absurd ho (Nat.not_lt_zero _)) (Cv.le_refl I) ha hold)
      refine⟨h1,Calls.mono h2 fun e w' hr=>?_⟩
      obtain⟨rv,v,st',J,ν,e1,e2,e3,e4,e5⟩:=hr
      unfold Bn at e2
      split at e2
      ·rename_i v' hv'
       obtain⟨K,k1,k2,k3⟩:=Sz (μ:=μ) H e3 e5.JZ e4 hv' (fun o pl ho _=>absurd ho (Nat.not_lt_zero _)) (by rw[e5.lo]; exact Nat.le_refl _)
       exact⟨rv,v',st,K,μ,e1,e2,k1,k2,k3,fun _ _ h=>h,fun _ _ _=>rfl,Nat.le_refl _,rfl,fun _ _ _ _=>rfl⟩
      ·exact e2.elim
     ·exact h.elim
    ·split at h
     ·rename_i args' ht
      rw[M.all_bind] at h
      have hle:=TM (c:=0) H
      have ha':Ah (NA I μ 0 st.h w) (fun _=>none) args' rargs:=Dm (fun v v' rv h1 h2=>Sm H (fun o pl ho _=>absurd ho (Nat.not_lt_zero _)) _ v v' rv h1 h2) ht ha
      have H':Ay w.heap.size ⟨w,NA I μ 0 st.h w⟩ (NA I μ 0 st.h w) (fun _=>none) ⟨[],0,0⟩ w:=
       ⟨Below.refl _ _,Nat.le_refl _,fun r off u h=>(by
        simp only[NA] at h
        split at h
        ·exact h
        ·exact H.JZ r off u h),fun r es h=>(by
        simp only[NA] at h
        split at h
        ·exact h
        ·exact H.Dj r es h),fun _ _=>rfl,fun o x pl h1=>(by cases h1),fun o x pl h1=>(by cases h1),fun o p x y pl pm h1=>(by cases h1),fun o x pl i h1=>(by cases h1),fun o x pl h1=>(by cases h1),fun o x h1=>(by cases h1),fun r _=>⟨fun _=>rfl,rfl⟩⟩
      obtain⟨h1,h2⟩:=MG hS ih hF h H' (Nat.le_refl _) (hG.mono hle) ha'
      refine⟨h1,Calls.mono h2 fun e w' hr=>?_⟩
      obtain⟨rv,v,st',J,ν,e1,e2,e3,e4,e5⟩:=hr
      unfold Di at e2
      rw[cond_eq_ite] at e2
      split at e2
      ·rename_i hp
       exact⟨rv,v,st,I,μ,e1,e2,H.grown e3.below,Ru e4 hp,Nx.refl _ _ _ _⟩
      ·exact e2.elim
     ·exact h.elim
end
end Go.Am
end
